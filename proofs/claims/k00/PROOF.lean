import PyProof.Rows.All
import Wide.All
import OpenK.AllK
import Wide.FinOn
import PySem.Challenge.RW_lookon_k00_queries_exactly_what_is_a_tes
import PySem.Str
import HandS.ForMost
import HandS.Exc
import HandS.ExcInit
import HandS.Deep
import HandS.TupAny
import HandS.TupMul
import HandS.TupLe
import HandS.Flow
import HandS.IsInst
import HandS.Strs
import HandS.CallSlots
import HandS.FStr
import HandS.WordsExc
import HandS.Codes
set_option Elab.async false
set_option linter.all false
/-! Ev0: own data D, own syntax E (expressions) and S (statements), the evaluator. No model in sight. -/
namespace Ev
open PySem (Str)

/-- data: None, bool, int, text (its codes), tuple, list that never changes any more, reference into the store -/
inductive D where
  | non | bl (b : Bool) | int (i : Int) | str (cs : List Nat)
  | tup (xs : List D) | lst (xs : List D)
  | obj (n : Nat)
instance : Inhabited D := ⟨.non⟩

/-- a mutable object -/
inductive MO where
  | lst (xs : List D)
  | dic (kvs : List (D × D))
  | ins (C : Nat) (fs : List (Str × D))
abbrev Mem := List MO

/-- a local name: not set, a value, a list of its own (which nobody else knows) -/
inductive Slot where
  | no | val (d : D) | own (xs : List D)
abbrev Env := List Slot

inductive Res (α : Type) where
  | ok (a : α) (M : Mem)
  | exc (C : Nat) (d : D) (M : Mem)
  | bad
def Res.bind {α β : Type} : Res α → (α → Mem → Res β) → Res β
  | .ok a M, f => f a M
  | .exc C d M, _ => .exc C d M
  | .bad, _ => .bad
def Res.noexc {α : Type} : Res α → Res α
  | .ok a M => .ok a M
  | _ => .bad
def lift {α : Type} : Option α → Mem → Res α
  | some a, M => .ok a M
  | none, _ => .bad

/-! ### data -/
mutual
def D.nobj : D → Bool
  | .tup xs => nobjs xs
  | .lst xs => nobjs xs
  | .obj _ => false
  | .non | .bl _ | .int _ | .str _ => true
def nobjs : List D → Bool
  | [] => true
  | x :: xs => x.nobj && nobjs xs
end
mutual
def D.dep : D → Nat
  | .tup xs => deps xs + 1
  | .lst xs => deps xs + 1
  | .obj _ | .non | .bl _ | .int _ | .str _ => 0
def deps : List D → Nat
  | [] => 0
  | x :: xs => max x.dep (deps xs)
end
mutual
/-- Python's == -/
def eqD : D → D → Bool
  | .non, .non => true
  | .bl a, .bl b => a == b
  | .bl a, .int j => (if a then 1 else 0) == j
  | .int i, .bl b => i == (if b then 1 else 0)
  | .int i, .int j => i == j
  | .str x, .str y => x == y
  | .lst xs, .lst ys => eqDs xs ys
  | .tup xs, .tup ys => eqDs xs ys
  | _, _ => false
def eqDs : List D → List D → Bool
  | [], [] => true
  | x :: xs, y :: ys => eqD x y && eqDs xs ys
  | [], _ :: _ => false
  | _ :: _, [] => false
end
def big : Nat := 16777216
def maxDep : Nat := 150
/-- == may be asked of two data -/
def eqOk (a b : D) : Bool := a.nobj && b.nobj && (decide (a.dep ≤ maxDep) || decide (b.dep ≤ maxDep))
def eqQ (a b : D) : Option Bool := if eqOk a b then some (eqD a b) else none
/-- x in ys, by == -/
def inDs (x : D) (ys : List D) : Bool := ys.any fun y => eqD y x
/-- .index -/
def ixDs (x : D) : List D → Option Nat
  | [] => none
  | y :: ys => if eqD y x then some 0 else (ixDs x ys).map (· + 1)

/-- what stands at index i (negative: from behind) -/
def ixN (n : Nat) (i : Int) : Option Nat :=
  if 0 ≤ i then (if i < n then some i.toNat else none) else (if 0 ≤ i + n then some (i + n).toNat else none)
def getIx {α : Type} (xs : List α) (i : Int) : Option α := (ixN xs.length i).bind fun j => xs[j]?
def slB (n dflt : Nat) : Option Int → Nat
  | none => dflt
  | some i => if i < 0 then (i + n).toNat else min i.toNat n
def cut {α : Type} (xs : List α) (lo hi : Option Int) : List α :=
  (xs.drop (slB xs.length 0 lo)).take (slB xs.length xs.length hi - slB xs.length 0 lo)

def D.tru (M : Mem) : D → Option Bool
  | .non => some false
  | .bl b => some b
  | .int i => some (i != 0)
  | .str cs => some (!cs.isEmpty)
  | .tup xs => some (!xs.isEmpty)
  | .lst xs => some (!xs.isEmpty)
  | .obj n => match M[n]? with
    | some (.lst xs) => some (!xs.isEmpty)
    | some (.dic kvs) => some (!kvs.isEmpty)
    | _ => none

/-! ### syntax -/
inductive Bop where | add | sub | mul | fdiv | mod | pow
inductive Cop where | eq | ne | lt | le | gt | ge | is | isNot | in_ | notIn
/-- a target: a name, or a tuple of names -/
inductive Tg where | nm (i : Nat) | tp (is : List Nat)
/-- built-in functions -/
inductive Bi where
  | len | int | tuple | list | all | any | sorted | min | max | sum
/-- what isinstance asks for -/
inductive Ty where | tuple | list | str | int | bool
/-- methods of built-in types, asked of a value -/
inductive Bm where | index | get | get2 | join | find2
inductive E where
  | var (i : Nat) | bor (i : Nat)
  | non | bl (b : Bool) | int (i : Int) | str (cs : List Nat)
  | glo (g : Nat)
  | nil | cons (e r : E) | star (e r : E)
  | tup (es : E) | lst (es : E)
  | bin (op : Bop) (a b : E) | cmp (op : Cop) (a b : E) | cmp2 (o1 o2 : Cop) (a b c : E)
  | and (es : E) | or (es : E) | not (a : E) | neg (a : E)
  | ite (c a b : E)
  | idx (a i : E) | slc (a lo hi : E)
  | call (f : Nat) (es : E)
  | bi (b : Bi) (es : E) | isi (t : Ty) (e : E) | bm (m : Bm) (o es : E)
  | comp (vs : List Nat) (t : Tg) (it c e : E)
  | comp2 (vs : List Nat) (vs1 : List Nat) (t : Tg) (it c : E) (t1 : Tg) (it1 c1 e : E)
  | itV (e : E) | itRange (es : E) | itEnum (e : E) | itZip (a b : E) | itRev (e : E)
inductive S where
  | skip | seq (a b : S) | expr (e : E)
  | set (t : Tg) (e : E) | setO (i : Nat) (e : E) | frz (i : Nat)
  | app (i : Nat) (e : E) | ext (i : Nat) (e : E) | ins (i : Nat) (k e : E) | put (i : Nat) (k e : E) | rev (i : Nat)
  | popO (t : Tg) (i : Nat)
  | ite (c : E) (a b : S) | for_ (t : Tg) (it : E) (b : S) | while (c : E) (b : S)
  | ret (e : E) | retN | cont

/-- a statement that is not in the text: a list of a name's own is fixed -/
def S.isGhost : S → Bool
  | .frz _ => true
  | _ => false
/-! ### operators -/
def mulOk (i j : Int) : Bool := decide (i.natAbs < 18446744073709551616) || decide (j.natAbs < 18446744073709551616)
def binQ : Bop → D → D → Option D
  | .add, .int i, .int j => some (.int (i + j))
  | .add, .str x, .str y => if x.length + y.length ≤ big then some (.str (x ++ y)) else none
  | .add, .lst x, .lst y => if x.length + y.length ≤ big then some (.lst (x ++ y)) else none
  | .add, .tup x, .tup y => if x.length + y.length ≤ big then some (.tup (x ++ y)) else none
  | .sub, .int i, .int j => some (.int (i - j))
  | .mul, .int i, .int j => if mulOk i j then some (.int (i * j)) else none
  | .mul, .str x, .int j => if 0 ≤ j ∧ j ≤ 1000 ∧ x.length ≤ 1000 then some (.str (List.replicate j.toNat x).flatten) else none
  | .mul, .tup x, .int j => if 2 ≤ j ∧ j ≤ 1000 ∧ x.length ≤ 1000 ∧ x.isEmpty = false then some (.tup (List.replicate j.toNat x).flatten) else none
  | .fdiv, .int i, .int j => if j ≠ 0 ∧ j.natAbs < 1073741824 then some (.int (i.fdiv j)) else none
  | .mod, .int i, .int j => if j ≠ 0 then some (.int (i.fmod j)) else none
  | .pow, .int i, .int j => if 0 ≤ j ∧ j ≤ 1000000 ∧ i.natAbs < 18446744073709551616 then some (.int (i ^ j.toNat)) else none
  | _, _, _ => none
/-- lexicographic < of codes -/
def ltC (x y : List Nat) : Bool := decide (x < y)
def isC : D → D → Option Bool
  | .non, .non => some true
  | .bl a, .bl b => some (a == b)
  | .non, .bl _ => some false
  | .bl _, .non | .int _, .non | .str _, .non | .tup _, .non | .lst _, .non | .obj _, .non => some false
  | .int _, .bl _ | .str _, .bl _ | .tup _, .bl _ | .lst _, .bl _ | .obj _, .bl _ => some false
  | _, _ => none
def inQ (x : D) (M : Mem) : D → Option Bool
  | .tup ys => if eqOk x (.tup ys) then some (inDs x ys) else none
  | .lst ys => if eqOk x (.lst ys) then some (inDs x ys) else none
  | .str y => match x with | .str [c] => some (decide (c ∈ y)) | _ => none
  | _ => none
def cmpQ (M : Mem) : Cop → D → D → Option Bool
  | .eq, a, b => eqQ a b
  | .ne, a, b => (eqQ a b).map (!·)
  | .lt, .int i, .int j => some (decide (i < j))
  | .le, .int i, .int j => some (decide (i ≤ j))
  | .gt, .int i, .int j => some (decide (j < i))
  | .ge, .int i, .int j => some (decide (j ≤ i))
  | .lt, .str x, .str y => some (ltC x y)
  | .le, .str x, .str y => some (!ltC y x)
  | .gt, .str x, .str y => some (ltC y x)
  | .ge, .str x, .str y => some (!ltC x y)
  | .is, a, b => isC a b
  | .isNot, a, b => (isC a b).map (!·)
  | .in_, a, b => inQ a M b
  | .notIn, a, b => (inQ a M b).map (!·)
  | _, _, _ => none
def idxQ : D → D → Option D
  | .lst xs, .int i => getIx xs i
  | .tup xs, .int i => getIx xs i
  | .str cs, .int i => (getIx cs i).map fun c => .str [c]
  | _, _ => none
def slcQ (lo hi : Option Int) : D → Option D
  | .lst xs => some (.lst (cut xs lo hi))
  | .tup xs => some (.tup (cut xs lo hi))
  | .str cs => some (.str (cut cs lo hi))
  | _ => none
def boundQ (b : Bool) : D → Option (Option Int)
  | .non => if b then some none else none
  | .int i => if b then none else some (some i)
  | _ => none
def boolsOf : List D → Option (List Bool)
  | [] => some []
  | .bl b :: r => (boolsOf r).map (b :: ·)
  | _ => none
def intsOf : List D → Option (List Int)
  | [] => some []
  | .int b :: r => (intsOf r).map (b :: ·)
  | _ => none
def strsOf : List D → Option (List (List Nat))
  | [] => some []
  | .str b :: r => (strsOf r).map (b :: ·)
  | _ => none
def insSorted {α : Type} (lt : α → α → Bool) (x : α) : List α → List α
  | [] => [x]
  | y :: ys => if lt x y then x :: y :: ys else y :: insSorted lt x ys
def isort {α : Type} (lt : α → α → Bool) : List α → List α
  | [] => []
  | x :: xs => insSorted lt x (isort lt xs)
def sortQ (xs : List D) : Option D :=
  if 63 < xs.length then none else
  match intsOf xs with
  | some is => some (.lst ((isort (fun a b => decide (a < b)) is).map .int))
  | none => match strsOf xs with
    | some ss => some (.lst ((isort ltC ss).map .str))
    | none => none
def biQ (M : Mem) : Bi → List D → Option D
  | .len, [.lst xs] => some (.int xs.length)
  | .len, [.tup xs] => some (.int xs.length)
  | .len, [.str cs] => some (.int cs.length)
  | .int, [.int i] => some (.int i)
  | .int, [.bl b] => some (.int (if b then 1 else 0))
  | .tuple, [.lst xs] => some (.tup xs)
  | .tuple, [.tup xs] => some (.tup xs)
  | .list, [.lst xs] => some (.lst xs)
  | .list, [.tup xs] => some (.lst xs)
  | .all, [.lst xs] => (boolsOf xs).map fun bs => .bl (bs.all id)
  | .any, [.lst xs] => (boolsOf xs).map fun bs => .bl (bs.any id)
  | .sorted, [.lst xs] => sortQ xs
  | .min, [.int i, .int j] => some (.int (if j < i then j else i))
  | .max, [.int i, .int j] => some (.int (if i < j then j else i))
  | .sum, [.lst xs] => (intsOf xs).map fun is => .int is.sum
  | _, _ => none
def isiQ : Ty → D → Option Bool
  | .tuple, d => match d with | .tup _ => some true | .obj _ => none | _ => some false
  | .list, d => match d with | .lst _ => some true | .obj _ => none | _ => some false
  | .str, d => match d with | .str _ => some true | .obj _ => none | _ => some false
  | .int, d => match d with | .int _ => some true | .bl _ => some true | .obj _ => none | _ => some false
  | .bool, d => match d with | .bl _ => some true | .obj _ => none | _ => some false
/-- what has that method -/
def recv : Bm → D → Option Unit
  | .index, .lst _ => some ()
  | _, _ => none
def bmQ (M : Mem) : Bm → D → List D → Option D
  | .index, .lst xs, [x] => if x.nobj && nobjs xs && decide (x.dep ≤ 60) && decide (deps xs ≤ 60) then (ixDs x xs).map fun (j : Nat) => .int j else none
  | _, _, _ => none

/-- the field of an error of the package, by its class: 1 InvalidArgument, 2 NoSuchNode, 3 NoSuchObserver, 4 RefusedError, 5 BadRecord, 6 BadText, 7 BadQuery -/
def xfld : Nat → Str
  | 1 => ⟨#[110, 97, 109, 101]⟩
  | 2 => ⟨#[110, 117, 109, 98, 101, 114]⟩
  | 3 => ⟨#[110, 117, 109, 98, 101, 114]⟩
  | 4 => ⟨#[114, 101, 97, 115, 111, 110]⟩
  | _ => ⟨#[112, 108, 97, 99, 101]⟩
/-! ### names -/
def setTg : Tg → D → Env → Option Env
  | .nm i, d, ρ => if i < ρ.length then some (ρ.set i (.val d)) else none
  | .tp is, .tup ds, ρ => if is.length = ds.length ∧ is.all (· < ρ.length) then some (List.foldl (fun ρ (p : Nat × D) => ρ.set p.1 (.val p.2)) ρ (is.zip ds)) else none
  | .tp _, _, _ => none
def wipeD (ρ : Env) : List Nat → Env
  | [] => ρ
  | v :: vs => (wipeD ρ vs).set v .no
/-- a comprehension's loop: e where c, for each item -/
def compL (ρ : Env) (t : Tg) (fc : Env → Mem → Res Bool) (fe : Env → Mem → Res D) : List D → Mem → Res (List D)
  | [], M => .ok [] M
  | x :: xs, M => (lift (setTg t x ρ) M).bind fun ρ1 M1 => (fc ρ1 M1).bind fun b M2 =>
    if b then (fe ρ1 M2).bind fun y M3 => (compL ρ t fc fe xs M3).bind fun ys M4 => .ok (y :: ys) M4 else compL ρ t fc fe xs M2
def compL2 (ρ : Env) (t : Tg) (fc : Env → Mem → Res Bool) (fi : Env → Mem → Res (List D)) : List D → Mem → Res (List D)
  | [], M => .ok [] M
  | x :: xs, M => (lift (setTg t x ρ) M).bind fun ρ1 M1 => (fc ρ1 M1).bind fun b M2 =>
    if b then (fi ρ1 M2).bind fun ys M3 => (compL2 ρ t fc fi xs M3).bind fun zs M4 => .ok (ys ++ zs) M4 else compL2 ρ t fc fi xs M2

/-- what is around: constants of the module, calls -/
structure Ctx where
  con : Nat → Option D
  call : Nat → List D → Mem → Res D

def rangeL (lo hi : Int) : List D := (List.range (hi - lo).toNat).map fun (k : Nat) => .int (lo + (k : Int))
def enumL (k : Nat) : List D → List D
  | [] => []
  | x :: xs => .tup [.int k, x] :: enumL (k + 1) xs
def seqOf : D → Option (List D)
  | .lst xs => some xs
  | .tup xs => some xs
  | .str cs => some (cs.map fun c => .str [c])
  | _ => none
def rangeQ : List D → Option (List D)
  | [.int j] => if -4000000000000000000 ≤ j ∧ j ≤ big then some (rangeL 0 j) else none
  | [.int i, .int j] => if -4000000000000000000 ≤ i ∧ i ≤ 4000000000000000000 ∧ -4000000000000000000 ≤ j ∧ j ≤ 4000000000000000000 ∧ j - i ≤ big then some (rangeL i j) else none
  | _ => none

def E.isNil : E → Bool
  | .nil => true
  | _ => false
def E.isNon : E → Bool
  | .non => true
  | _ => false
/-- a comprehension's test (none: nil) -/
def tst (none : Bool) (f : Env → Mem → Res D) (ρ : Env) (M : Mem) : Res Bool :=
  if none then .ok true M else (f ρ M).bind fun x M => lift (x.tru M) M

mutual
def ev (C : Ctx) : E → Env → Mem → Res D
  | .var i, ρ, M => match ρ[i]? with
    | some (.val d) => .ok d M
    | _ => .bad
  | .bor i, ρ, M => match ρ[i]? with
    | some (.own xs) => .ok (.lst xs) M
    | _ => .bad
  | .non, _, M => .ok .non M
  | .bl b, _, M => .ok (.bl b) M
  | .int i, _, M => .ok (.int i) M
  | .str cs, _, M => .ok (.str cs) M
  | .glo g, _, M => lift (C.con g) M
  | .tup es, ρ, M => (evs C es ρ M).bind fun ds M => if ds.length ≤ big then .ok (.tup ds) M else .bad
  | .lst es, ρ, M => (evs C es ρ M).bind fun ds M => if ds.length ≤ big then .ok (.lst ds) M else .bad
  | .bin op a b, ρ, M => (ev C a ρ M).bind fun x M => (ev C b ρ M).bind fun y M => lift (binQ op x y) M
  | .cmp op a b, ρ, M => (ev C a ρ M).bind fun x M => (ev C b ρ M).bind fun y M => (lift (cmpQ M op x y) M).bind fun k M => .ok (.bl k) M
  | .cmp2 o1 o2 a b c, ρ, M => (ev C a ρ M).bind fun x M => (ev C b ρ M).bind fun y M => (lift (cmpQ M o1 x y) M).bind fun k M =>
    if k then (ev C c ρ M).bind fun z M => (lift (cmpQ M o2 y z) M).bind fun k M => .ok (.bl k) M else .ok (.bl false) M
  | .and es, ρ, M => evAnd C es ρ M
  | .or es, ρ, M => evOr C es ρ M
  | .not a, ρ, M => (ev C a ρ M).bind fun x M => (lift (x.tru M) M).bind fun k M => .ok (.bl (!k)) M
  | .neg a, ρ, M => (ev C a ρ M).bind fun x M => match x with | .int i => .ok (.int (-i)) M | _ => .bad
  | .ite c a b, ρ, M => (ev C c ρ M).bind fun x M => (lift (x.tru M) M).bind fun k M => if k then ev C a ρ M else ev C b ρ M
  | .idx a i, ρ, M => (ev C a ρ M).bind fun x M => (ev C i ρ M).bind fun y M => lift (idxQ x y) M
  | .slc a lo hi, ρ, M => (ev C a ρ M).bind fun x M => (ev C lo ρ M).bind fun l M => (lift (boundQ lo.isNon l) M).bind fun l M =>
    (ev C hi ρ M).bind fun h M => (lift (boundQ hi.isNon h) M).bind fun h M => lift (slcQ l h x) M
  | .call f es, ρ, M => (evs C es ρ M).bind fun ds M => C.call f ds M
  | .bi b es, ρ, M => (evs C es ρ M).bind fun ds M => lift (biQ M b ds) M
  | .isi t e, ρ, M => (ev C e ρ M).bind fun x M => (lift (isiQ t x) M).bind fun k M => .ok (.bl k) M
  | .bm m o es, ρ, M => (ev C o ρ M).bind fun x M => (lift (recv m x) M).bind fun _ M => (evs C es ρ M).bind fun ds M => lift (bmQ M m x ds) M
  | .comp vs t it c e, ρ, M => (evI C it ρ M).bind fun xs M =>
    (compL (wipeD ρ vs) t (tst c.isNil (ev C c)) (ev C e) xs M).noexc.bind fun ys M => .ok (.lst ys) M
  | .comp2 vs vs1 t it c t1 it1 c1 e, ρ, M => (evI C it ρ M).bind fun xs M =>
    (compL2 (wipeD ρ vs) t (tst c.isNil (ev C c)) (fun ρ1 M => (evI C it1 ρ1 M).bind fun ys M => compL ρ1 t1 (tst c1.isNil (ev C c1)) (ev C e) ys M) xs M).noexc.bind fun ys M => if ys.length ≤ big then .ok (.lst ys) M else .bad
  | _, _, _ => .bad
termination_by structural e => e
def evs (C : Ctx) : E → Env → Mem → Res (List D)
  | .nil, _, M => .ok [] M
  | .cons e r, ρ, M => (ev C e ρ M).bind fun x M => (evs C r ρ M).bind fun xs M => .ok (x :: xs) M
  | .star e r, ρ, M => (ev C e ρ M).bind fun x M => (lift (seqOf x) M).bind fun xs M => (evs C r ρ M).bind fun ys M => .ok (xs ++ ys) M
  | _, _, _ => .bad
termination_by structural e => e
def evAnd (C : Ctx) : E → Env → Mem → Res D
  | .cons e r, ρ, M => if r.isNil then ev C e ρ M else (ev C e ρ M).bind fun x M => (lift (x.tru M) M).bind fun k M => if k then evAnd C r ρ M else .ok x M
  | _, _, _ => .bad
termination_by structural e => e
def evOr (C : Ctx) : E → Env → Mem → Res D
  | .cons e r, ρ, M => if r.isNil then ev C e ρ M else (ev C e ρ M).bind fun x M => (lift (x.tru M) M).bind fun k M => if k then .ok x M else evOr C r ρ M
  | _, _, _ => .bad
termination_by structural e => e
/-- what a loop walks -/
def evI (C : Ctx) : E → Env → Mem → Res (List D)
  | .itRange es, ρ, M => (evs C es ρ M).bind fun ds M => lift (rangeQ ds) M
  | .itEnum e, ρ, M => (ev C e ρ M).bind fun x M => (lift (seqOf x) M).bind fun xs M => .ok (enumL 0 xs) M
  | .itZip a b, ρ, M => (ev C a ρ M).bind fun x M => (ev C b ρ M).bind fun y M => (lift (seqOf x) M).bind fun xs M => (lift (seqOf y) M).bind fun ys M =>
    .ok (List.zipWith (fun a b => .tup [a, b]) xs ys) M
  | .itRev e, ρ, M => (ev C e ρ M).bind fun x M => (lift (seqOf x) M).bind fun xs M => .ok xs.reverse M
  | .itV e, ρ, M => (ev C e ρ M).bind fun x M => lift (seqOf x) M
  | _, _, _ => .bad
termination_by structural e => e
end

/-! ### statements -/
inductive Fl where | next | ret (d : D) | cont
def ownOf (ρ : Env) (i : Nat) : Option (List D) := match ρ[i]? with
  | some (.own xs) => some xs
  | _ => none
/-- where .insert puts -/
def insIx (n : Nat) (i : Int) : Nat := if i < 0 then (i + n).toNat else min i.toNat n
def forL (f : D → Env → Mem → Res (Fl × Env)) : List D → Env → Mem → Res (Fl × Env)
  | [], ρ, M => .ok (.next, ρ) M
  | x :: xs, ρ, M => (f x ρ M).bind fun r M => match r.1 with
    | .ret d => .ok (.ret d, r.2) M
    | _ => forL f xs r.2 M
def whileL (fc : Env → Mem → Res Bool) (fb : Env → Mem → Res (Fl × Env)) : Nat → Env → Mem → Res (Fl × Env)
  | 0, _, _ => .bad
  | n + 1, ρ, M => (fc ρ M).bind fun b M => if b then (fb ρ M).bind fun r M => match r.1 with
      | .ret d => .ok (.ret d, r.2) M
      | _ => whileL fc fb n r.2 M
    else .ok (.next, ρ) M
def ex (C : Ctx) (fu : Nat) : S → Env → Mem → Res (Fl × Env)
  | .skip, ρ, M => .ok (.next, ρ) M
  | .seq a b, ρ, M => (ex C fu a ρ M).bind fun r M => match r.1 with
    | .next => ex C fu b r.2 M
    | f => .ok (f, r.2) M
  | .expr e, ρ, M => (ev C e ρ M).bind fun _ M => .ok (.next, ρ) M
  | .set t e, ρ, M => (ev C e ρ M).bind fun x M => (lift (setTg t x ρ) M).bind fun ρ M => .ok (.next, ρ) M
  | .setO i e, ρ, M => (ev C e ρ M).bind fun x M => match x with
    | .lst xs => if i < ρ.length then .ok (.next, ρ.set i (.own xs)) M else .bad
    | _ => .bad
  | .frz i, ρ, M => (lift (ownOf ρ i) M).bind fun xs M => .ok (.next, ρ.set i (.val (.lst xs))) M
  | .app i e, ρ, M => (lift (ownOf ρ i) M).bind fun xs M => (ev C e ρ M).bind fun x M =>
    if xs.length < big then .ok (.next, ρ.set i (.own (xs ++ [x]))) M else .bad
  | .ext i e, ρ, M => (lift (ownOf ρ i) M).bind fun xs M => (ev C e ρ M).bind fun x M => match x with
    | .lst ys => if xs.length + ys.length ≤ big then .ok (.next, ρ.set i (.own (xs ++ ys))) M else .bad
    | _ => .bad
  | .ins i k e, ρ, M => (lift (ownOf ρ i) M).bind fun xs M => (ev C k ρ M).bind fun j M => (ev C e ρ M).bind fun x M => match j with
    | .int j => if xs.length < big then .ok (.next, ρ.set i (.own (xs.take (insIx xs.length j) ++ x :: xs.drop (insIx xs.length j)))) M else .bad
    | _ => .bad
  | .put i k e, ρ, M => (lift (ownOf ρ i) M).bind fun xs M => (ev C e ρ M).bind fun x M => (ev C k ρ M).bind fun j M => match j with
    | .int j => (lift (ixN xs.length j) M).bind fun j M => .ok (.next, ρ.set i (.own (xs.set j x))) M
    | _ => .bad
  | .rev i, ρ, M => (lift (ownOf ρ i) M).bind fun xs M => .ok (.next, ρ.set i (.own xs.reverse)) M
  | .popO t i, ρ, M => (lift (ownOf ρ i) M).bind fun xs M => match xs.getLast? with
    | some x => (lift (setTg t x (ρ.set i (.own xs.dropLast))) M).bind fun ρ M => .ok (.next, ρ) M
    | none => .bad
  | .ite c a b, ρ, M => (ev C c ρ M).bind fun x M => (lift (x.tru M) M).bind fun k M => if k then ex C fu a ρ M else ex C fu b ρ M
  | .for_ t it b, ρ, M => (evI C it ρ M).bind fun xs M =>
    forL (fun x ρ M => (lift (setTg t x ρ) M).bind fun ρ M => ex C fu b ρ M) xs ρ M
  | .while c b, ρ, M => whileL (fun ρ M => (ev C c ρ M).bind fun x M => lift (x.tru M) M) (ex C fu b) fu ρ M
  | .ret e, ρ, M => (ev C e ρ M).bind fun x M => .ok (.ret x, ρ) M
  | .retN, ρ, M => .ok (.ret .non, ρ) M
  | .cont, ρ, M => .ok (.cont, ρ) M

/-- a def: how many parameters, the names (parameters first), the body -/
structure FDef where
  np : Nat
  ns : List Str
  dfl : List D := []
  body : S
def padA (fd : FDef) (args : List D) : Option (List D) :=
  if args.length ≤ fd.np ∧ fd.np ≤ args.length + fd.dfl.length then some (args ++ fd.dfl.drop (fd.dfl.length + args.length - fd.np)) else none
def start (fd : FDef) (args : List D) : Env := args.map .val ++ List.replicate (fd.ns.length - args.length) .no
def fin : Fl × Env → Mem → Res D
  | (.ret d, _), M => .ok d M
  | (.next, _), M => .ok .non M
  | (.cont, _), _ => .bad
def callK (G : Nat → Option FDef) (con : Nat → Option D) (fu : Nat) : Nat → Nat → List D → Mem → Res D
  | 0, _, _, _ => .bad
  | k + 1, f, args, M => match G f with
    | none => .bad
    | some fd => (lift (padA fd args) M).bind fun args M => (ex ⟨con, callK G con fu k⟩ fu fd.body (start fd args) M).bind fin
end Ev

set_option maxRecDepth 100000
set_option maxHeartbeats 1000000
/-! Ev1: how data lie in the abstract heap. -/
namespace Ev
open PySem PySem.Spec PyProof.Rows L2

theorem big_line : big = sizeLine := by rw [sizeLine_eq]; rfl

/-- a list as it is to be read -/
def LsE (K : PySem.W.Frag) (H : Hp) (a : Addr) (vs : List V) : Prop :=
  H a = some (.lst vs) ∨ (∃ o, H a = some (.frz o (.lst vs))) ∨ ∃ (its : Array Value) (n : Nat), K.lookup a = some { cls := .type "list", data := .seq its n } ∧ its.size ≤ sizeLine ∧ Vals vs its.toList
/-- a list that never changes any more -/
def FrzL (K : PySem.W.Frag) (F : Addr → Prop) (H : Hp) (a : Addr) (vs : List V) : Prop :=
  (F a ∧ H a = some (.lst vs)) ∨ (∃ o, H a = some (.frz o (.lst vs))) ∨ ∃ (its : Array Value) (n : Nat), K.lookup a = some { cls := .type "list", data := .seq its n } ∧ its.size ≤ sizeLine ∧ Vals vs its.toList
theorem FrzL.ls {K : PySem.W.Frag} {F : Addr → Prop} {H : Hp} {a : Addr} {vs : List V} (h : FrzL K F H a vs) : LsE K H a vs := by
  rcases h with ⟨_, h⟩ | h | h
  · exact .inl h
  · exact .inr (.inl h)
  · exact .inr (.inr h)
theorem LsE.sq {K : PySem.W.Frag} {H : Hp} {a : Addr} {vs : List V} (h : LsE K H a vs) : SqL K H a vs := by
  rcases h with h | ⟨o, h⟩ | ⟨its, n, h1, h2, h3⟩
  · exact .inl (.inl h)
  · exact .inl (.inr ⟨o, h⟩)
  · exact .inr ⟨_, its, n, h1, rfl, rfl, rfl, h2, h3⟩
theorem Inv.ls {X : Cx} {pins : List (Addr × Obj)} {σ : L2.St} {H : Hp} {s : Shared} {a : Addr} {vs : List V} (I : Inv X pins σ H s) (h : LsE X.K H a vs) :
    ∃ (its : List Value) (n : Nat), Vals vs its ∧ s.heap.get? a = some { cls := .type "list", data := .seq its.toArray n } ∧ vs.length ≤ sizeLine := by
  rcases h with h | ⟨o, h⟩ | ⟨its, n, h1, h2, h3⟩
  · obtain ⟨z, its, n, r, e⟩ := I.hok a _ h
    exact ⟨its, n, r, e, z⟩
  · obtain ⟨_, z, its, n, r, e⟩ := I.hok a _ h
    exact ⟨its, n, r, e, z⟩
  · refine ⟨its.toList, n, h3, by simpa using I.kIn a _ h1, ?_⟩
    have e := h3.length
    simp only [Array.length_toList] at e
    omega

def strOkC (cs : List Nat) : Bool := cs.all (· < 0x110000)

mutual
/-- v is the datum d: F the lists that never change, as the store's addresses -/
inductive Rp (K : PySem.W.Frag) (F : Addr → Prop) (as : List Addr) (H : Hp) : D → V → Prop
  | non : Rp K F as H .non .non
  | bl (b : Bool) : Rp K F as H (.bl b) (.bl b)
  | int (i : Int) : Rp K F as H (.int i) (.int i)
  | str {cs : List Nat} : strOkC cs = true → cs.length ≤ sizeLine → Rp K F as H (.str cs) (.str ⟨cs.toArray⟩)
  | tup {a : Addr} {vs : List V} {xs : List D} : SqT K H a vs → vs.length ≤ sizeLine → Rps K F as H xs vs → Rp K F as H (.tup xs) (.ref a)
  | lst {a : Addr} {vs : List V} {xs : List D} : FrzL K F H a vs → vs.length ≤ sizeLine → Rps K F as H xs vs → Rp K F as H (.lst xs) (.ref a)
  | obj {n : Nat} {a : Addr} : as[n]? = some a → Rp K F as H (.obj n) (.ref a)
inductive Rps (K : PySem.W.Frag) (F : Addr → Prop) (as : List Addr) (H : Hp) : List D → List V → Prop
  | nil : Rps K F as H [] []
  | cons {x : D} {v : V} {xs : List D} {vs : List V} : Rp K F as H x v → Rps K F as H xs vs → Rps K F as H (x :: xs) (v :: vs)
end

/-- a step: the store may have grown, more lists are fixed, all else that was there stands (but for the store's own objects) -/
structure Stp (as : List Addr) (F : Addr → Prop) (H : Hp) (as' : List Addr) (F' : Addr → Prop) (H' : Hp) : Prop where
  pre : ∃ t, as' = as ++ t ∧ ∀ a ∈ t, H a = none
  fr : ∀ a, F a → F' a
  newF : ∀ a, F' a → F a ∨ H a = none
  keep : ∀ a o, H a = some o → a ∉ as → H' a = some o
  keepF : ∀ a o, F a → H a = some o → H' a = some o
  keepI : ∀ a o, H a = some o → ¬ Mut (some o) → H' a = some o
  dom : ∀ a, H a ≠ none → H' a ≠ none

/-- what data lean on -/
structure Ext (as : List Addr) (F : Addr → Prop) (H : Hp) (as' : List Addr) (F' : Addr → Prop) (H' : Hp) : Prop where
  get : ∀ (n : Nat) (p : Addr), as[n]? = some p → as'[n]? = some p
  fr : ∀ a, F a → F' a
  keepF : ∀ a o, F a → H a = some o → H' a = some o
  keepI : ∀ a o, H a = some o → ¬ Mut (some o) → H' a = some o

section
variable {K : PySem.W.Frag} {F F' F'' : Addr → Prop} {as as' as'' : List Addr} {H H' H'' : Hp}

theorem Stp.refl : Stp as F H as F H :=
  ⟨⟨[], by simp, by simp⟩, fun _ h => h, fun _ h => .inl h, fun _ _ h _ => h, fun _ _ _ h => h, fun _ _ h _ => h, fun _ h => h⟩
theorem Stp.trans (a : Stp as F H as' F' H') (b : Stp as' F' H' as'' F'' H'') : Stp as F H as'' F'' H'' := by
  obtain ⟨t, e, ht⟩ := a.pre
  obtain ⟨u, e', hu⟩ := b.pre
  have nn : ∀ c, H' c = none → H c = none := fun c h => by
    cases q : H c with
    | none => rfl
    | some o => exact absurd h (a.dom c (by rw [q]; simp))
  refine ⟨⟨t ++ u, by rw [e', e, List.append_assoc], fun c hc => ?_⟩, fun c h => b.fr c (a.fr c h), fun c h => ?_, fun c o h hn => ?_, fun c o hf h => b.keepF c o (a.fr c hf) (a.keepF c o hf h), fun c o h hm => b.keepI c o (a.keepI c o h hm) hm, fun c h => b.dom c (a.dom c h)⟩
  · rcases List.mem_append.mp hc with hc | hc
    · exact ht c hc
    · exact nn c (hu c hc)
  · rcases b.newF c h with h | h
    · exact a.newF c h
    · exact .inr (nn c h)
  · refine b.keep c o (a.keep c o h hn) fun z => ?_
    rw [e] at z
    rcases List.mem_append.mp z with z | z
    · exact hn z
    · rw [ht c z] at h; cases h
theorem Stp.get (a : Stp as F H as' F' H') {n : Nat} {p : Addr} (h : as[n]? = some p) : as'[n]? = some p := by
  obtain ⟨t, e, _⟩ := a.pre
  rw [e, List.getElem?_append_left (List.getElem?_eq_some_iff.mp h).1]
  exact h
theorem Stp.mem (a : Stp as F H as' F' H') {p : Addr} (h : p ∈ as') : p ∈ as ∨ H p = none := by
  obtain ⟨t, e, ht⟩ := a.pre
  rw [e] at h
  rcases List.mem_append.mp h with h | h
  · exact .inl h
  · exact .inr (ht p h)
theorem Stp.ext (a : Stp as F H as' F' H') : Ext as F H as' F' H' := ⟨fun _ _ h => a.get h, a.fr, a.keepF, a.keepI⟩
theorem FrzL.step (a : Ext as F H as' F' H') {p : Addr} {vs : List V} (h : FrzL K F H p vs) : FrzL K F' H' p vs := by
  rcases h with ⟨f, h⟩ | ⟨o, h⟩ | h
  · exact .inl ⟨a.fr p f, a.keepF p _ f h⟩
  · exact .inr (.inl ⟨o, a.keepI p _ h (fun z => z)⟩)
  · exact .inr (.inr h)
theorem sqT_step (a : Ext as F H as' F' H') {p : Addr} {vs : List V} (h : SqT K H p vs) : SqT K H' p vs := by
  rcases h with (h | ⟨o, h⟩) | h
  · exact .inl (.inl (a.keepI p _ h (fun z => z)))
  · exact .inl (.inr ⟨o, a.keepI p _ h (fun z => z)⟩)
  · exact .inr h
mutual
theorem Rp.ext (a : Ext as F H as' F' H') : ∀ {d : D} {v : V}, Rp K F as H d v → Rp K F' as' H' d v
  | _, _, .non => .non
  | _, _, .bl b => .bl b
  | _, _, .int i => .int i
  | _, _, .str h1 h2 => .str h1 h2
  | _, _, .tup h1 h2 h3 => .tup (sqT_step a h1) h2 (Rps.ext a h3)
  | _, _, .lst h1 h2 h3 => .lst (h1.step a) h2 (Rps.ext a h3)
  | _, _, .obj h => .obj (a.get _ _ h)
theorem Rps.ext (a : Ext as F H as' F' H') : ∀ {d : List D} {v : List V}, Rps K F as H d v → Rps K F' as' H' d v
  | _, _, .nil => .nil
  | _, _, .cons h1 h2 => .cons (Rp.ext a h1) (Rps.ext a h2)
end
theorem Rp.step (a : Stp as F H as' F' H') {d : D} {v : V} (h : Rp K F as H d v) : Rp K F' as' H' d v := h.ext a.ext
theorem Rps.step (a : Stp as F H as' F' H') {d : List D} {v : List V} (h : Rps K F as H d v) : Rps K F' as' H' d v := h.ext a.ext
theorem Rps.length : ∀ {xs : List D} {vs : List V}, Rps K F as H xs vs → xs.length = vs.length
  | _, _, .nil => rfl
  | _, _, .cons _ h => by simp [Rps.length h]
theorem Rps.get : ∀ {xs : List D} {vs : List V} {i : Nat} {d : D}, Rps K F as H xs vs → xs[i]? = some d → ∃ v, vs[i]? = some v ∧ Rp K F as H d v
  | _, _, _, _, .nil, e => by simp at e
  | _, _, 0, _, .cons r _, e => by simp at e; subst e; exact ⟨_, rfl, r⟩
  | _, _, i + 1, d, .cons _ t, e => by
    obtain ⟨u, h1, h2⟩ := Rps.get (i := i) (d := d) t (by simpa using e)
    exact ⟨u, by simpa using h1, h2⟩
theorem Rps.getV : ∀ {xs : List D} {vs : List V} {i : Nat} {v : V}, Rps K F as H xs vs → vs[i]? = some v → ∃ d, xs[i]? = some d ∧ Rp K F as H d v
  | _, _, _, _, .nil, e => by simp at e
  | _, _, 0, _, .cons r _, e => by simp at e; subst e; exact ⟨_, rfl, r⟩
  | _, _, i + 1, d, .cons _ t, e => by
    obtain ⟨u, h1, h2⟩ := Rps.getV (i := i) (v := d) t (by simpa using e)
    exact ⟨u, by simpa using h1, h2⟩
theorem Rps.append : ∀ {xs ys : List D} {vs us : List V}, Rps K F as H xs vs → Rps K F as H ys us → Rps K F as H (xs ++ ys) (vs ++ us)
  | _, _, _, _, .nil, s => s
  | _, _, _, _, .cons r t, s => .cons r (Rps.append t s)
theorem Rps.take : ∀ {xs : List D} {vs : List V} (n : Nat), Rps K F as H xs vs → Rps K F as H (xs.take n) (vs.take n)
  | _, _, 0, _ => .nil
  | _, _, _ + 1, .nil => .nil
  | _, _, n + 1, .cons r t => .cons r (Rps.take n t)
theorem Rps.drop : ∀ {xs : List D} {vs : List V} (n : Nat), Rps K F as H xs vs → Rps K F as H (xs.drop n) (vs.drop n)
  | _, _, 0, r => r
  | _, _, _ + 1, .nil => .nil
  | _, _, n + 1, .cons _ t => Rps.drop n t
theorem Rps.set {d : D} {v : V} (r : Rp K F as H d v) : ∀ {xs : List D} {vs : List V} (i : Nat), Rps K F as H xs vs → Rps K F as H (xs.set i d) (vs.set i v)
  | _, _, _, .nil => .nil
  | _, _, 0, .cons _ t => .cons r t
  | _, _, i + 1, .cons q t => .cons q (Rps.set r i t)
theorem Rps.reverse {xs : List D} {vs : List V} (h : Rps K F as H xs vs) : Rps K F as H xs.reverse vs.reverse := by
  have key : ∀ (xs ys : List D) (vs us : List V), Rps K F as H xs vs → Rps K F as H ys us → Rps K F as H (xs.reverseAux ys) (vs.reverseAux us) := by
    intro xs
    induction xs with
    | nil => intro ys vs us h s; cases h; exact s
    | cons x xs ih => intro ys vs us h s; cases h with | cons r t => have q := ih _ _ _ t (Rps.cons r s); exact q
  exact key _ _ _ _ h .nil

/-! ### the store -/
def keyD : D → Option Key
  | .int i => some (.inl i)
  | .str cs => some (.inr ⟨cs.toArray⟩)
  | _ => none
/-- the object at a is the store's mo -/
def MoOk (K : PySem.W.Frag) (cls : Nat → Addr) (F : Addr → Prop) (as : List Addr) (H : Hp) (a : Addr) : MO → Prop
  | .lst xs => ∃ vs, H a = some (.lst vs) ∧ vs.length ≤ sizeLine ∧ Rps K F as H xs vs
  | .dic kvs => ∃ kvs', H a = some (.dK kvs') ∧ kvs'.length ≤ sizeLine ∧ Paired (fun (p : D × D) (q : Key × V) => keyD p.1 = some q.1 ∧ Rp K F as H p.2 q.2) kvs kvs'
  | .ins C fs => ∃ dx fvs, H a = some (.ins (cls C) dx fvs) ∧ Paired (fun (p : Str × D) (q : Str × V) => p.1 = q.1 ∧ Rp K F as H p.2 q.2) fs fvs
structure MemOk (K : PySem.W.Frag) (cls : Nat → Addr) (as : List Addr) (F : Addr → Prop) (M : Mem) (H : Hp) : Prop where
  len : as.length = M.length
  nd : as.Nodup
  nf : ∀ a ∈ as, ¬ F a
  fd : ∀ a, F a → H a ≠ none
  ob : ∀ (j : Nat) (mo : MO) (a : Addr), M[j]? = some mo → as[j]? = some a → MoOk K cls F as H a mo

variable {cls : Nat → Addr} {M M' : Mem}
theorem MoOk.there {a : Addr} {mo : MO} (h : MoOk K cls F as H a mo) : H a ≠ none := by
  cases mo with
  | lst xs => obtain ⟨_, h, _⟩ := h; rw [h]; simp
  | dic kvs => obtain ⟨_, h, _⟩ := h; rw [h]; simp
  | ins C fs => obtain ⟨_, _, h, _⟩ := h; rw [h]; simp
theorem MemOk.there (h : MemOk K cls as F M H) {a : Addr} (ha : a ∈ as) : H a ≠ none := by
  obtain ⟨j, hj, e⟩ := List.getElem_of_mem ha
  have hj' : j < M.length := by rw [← h.len]; exact hj
  exact (h.ob j M[j] a (by simp [hj']) (by rw [List.getElem?_eq_getElem hj, e])).there
/-- the store's objects stay where the store stays -/
theorem MoOk.ext (s : Ext as F H as' F' H') {a : Addr} {mo : MO} (h : MoOk K cls F as H a mo) (e : H' a = H a) : MoOk K cls F' as' H' a mo := by
  cases mo with
  | lst xs => obtain ⟨vs, h1, h2, h3⟩ := h; exact ⟨vs, by rw [e]; exact h1, h2, h3.ext s⟩
  | dic kvs => obtain ⟨vs, h1, h2, h3⟩ := h; exact ⟨vs, by rw [e]; exact h1, h2, Paired.mapP h3 fun _ _ r => ⟨r.1, r.2.ext s⟩⟩
  | ins C fs => obtain ⟨dx, vs, h1, h3⟩ := h; exact ⟨dx, vs, by rw [e]; exact h1, Paired.mapP h3 fun _ _ r => ⟨r.1, r.2.ext s⟩⟩
/-- a new thing is laid: nothing that was there changes -/
theorem MemOk.grow (h : MemOk K cls as F M H) (s : Stp as F H as F' H') (k : ∀ a ∈ as, H' a = H a) (hf : ∀ a, F' a → H' a ≠ none) : MemOk K cls as F' M H' where
  len := h.len
  nd := h.nd
  nf := fun a ha z => by
    rcases s.newF a z with z | z
    · exact h.nf a ha z
    · exact h.there ha z
  fd := hf
  ob := fun j mo a h1 h2 => (h.ob j mo a h1 h2).ext s.ext (k a (List.mem_of_getElem? h2))
/-- a new untracked-by-the-store thing at p -/
theorem Stp.laid {p : Addr} {o : HO} (hp : H p = none) : Stp as F H as F (upd H p o) where
  pre := ⟨[], by simp, by simp⟩
  fr := fun _ h => h
  newF := fun _ h => .inl h
  keep := fun a u h _ => by rw [upd_ne (ne_of_none h hp)]; exact h
  keepF := fun a u _ h => by rw [upd_ne (ne_of_none h hp)]; exact h
  keepI := fun a u h _ => by rw [upd_ne (ne_of_none h hp)]; exact h
  dom := fun a h => by
    unfold upd
    split
    · simp
    · exact h
/-- .. and fixed -/
theorem Stp.laidF {p : Addr} {o : HO} (hp : H p = none) : Stp as F H as (fun a => F a ∨ a = p) (upd H p o) where
  pre := ⟨[], by simp, by simp⟩
  fr := fun _ h => .inl h
  newF := fun a h => by
    rcases h with h | h
    · exact .inl h
    · exact .inr (by rw [h]; exact hp)
  keep := (Stp.laid (as := as) (F := F) hp).keep
  keepF := (Stp.laid (as := as) (F := F) hp).keepF
  keepI := (Stp.laid (as := as) (F := F) hp).keepI
  dom := (Stp.laid (as := as) (F := F) hp).dom
theorem MemOk.laid (h : MemOk K cls as F M H) {p : Addr} {o : HO} (hp : H p = none) : MemOk K cls as F M (upd H p o) :=
  h.grow (Stp.laid hp) (fun a ha => upd_ne (fun z => h.there ha (by rw [z]; exact hp))) fun a f => (Stp.laid (as := as) (F := F) (o := o) hp).dom a (h.fd a f)
theorem MemOk.laidF (h : MemOk K cls as F M H) {p : Addr} {o : HO} (hp : H p = none) : MemOk K cls as (fun a => F a ∨ a = p) M (upd H p o) :=
  h.grow (Stp.laidF hp) (fun a ha => upd_ne (fun z => h.there ha (by rw [z]; exact hp))) fun a f => by
    rcases f with f | f
    · exact (Stp.laid (as := as) (F := F) (o := o) hp).dom a (h.fd a f)
    · rw [f, upd_same]; simp

/-- a name's own list changes -/
theorem Ext.own {p : Addr} {vs : List V} {o : HO} (hp : H p = some (.lst vs)) (nf : ¬ F p) : Ext as F H as F (upd H p o) where
  get := fun _ _ h => h
  fr := fun _ h => h
  keepF := fun a u f h => by rw [upd_ne (fun z => nf (by rw [← z]; exact f))]; exact h
  keepI := fun a u h m => by rw [upd_ne (fun z => m (by rw [z, hp] at h; cases h; exact True.intro))]; exact h
theorem MemOk.own (h : MemOk K cls as F M H) {p : Addr} {vs : List V} {o : HO} (hp : H p = some (.lst vs)) (nf : ¬ F p) (na : p ∉ as) : MemOk K cls as F M (upd H p o) where
  len := h.len
  nd := h.nd
  nf := h.nf
  fd := fun a f => by
    unfold upd
    split
    · simp
    · exact h.fd a f
  ob := fun j mo a h1 h2 => (h.ob j mo a h1 h2).ext (Ext.own hp nf) (upd_ne (fun z => na (by rw [← z]; exact List.mem_of_getElem? h2)))
/-- .. seen from a place where it was not there yet -/
theorem Stp.own {as0 : List Addr} {F0 : Addr → Prop} {H0 : Hp} (s : Stp as0 F0 H0 as F H) {p : Addr} {vs : List V} {o : HO} (hp : H p = some (.lst vs)) (nf : ¬ F p) (h0 : H0 p = none) : Stp as0 F0 H0 as F (upd H p o) where
  pre := s.pre
  fr := s.fr
  newF := s.newF
  keep := fun a u h n => by rw [upd_ne (ne_of_none h h0)]; exact s.keep a u h n
  keepF := fun a u f h => by rw [upd_ne (ne_of_none h h0)]; exact s.keepF a u f h
  keepI := fun a u h m => by rw [upd_ne (ne_of_none h h0)]; exact s.keepI a u h m
  dom := fun a h => by
    unfold upd
    split
    · simp
    · exact s.dom a h

/-! ### the names -/
/-- a list that only the name knows -/
structure Own (H0 : Hp) (as : List Addr) (F : Addr → Prop) (H : Hp) (a : Addr) (vs : List V) : Prop where
  at_ : H a = some (.lst vs)
  len : vs.length ≤ sizeLine
  nf : ¬ F a
  na : a ∉ as
  new : H0 a = none
theorem Own.step {H0 : Hp} (s : Stp as F H as' F' H') {a : Addr} {vs : List V} (h : Own H0 as F H a vs) : Own H0 as' F' H' a vs where
  at_ := s.keep a _ h.at_ h.na
  len := h.len
  nf := fun z => by
    rcases s.newF a z with z | z
    · exact h.nf z
    · rw [h.at_] at z; cases z
  na := fun z => by
    rcases s.mem z with z | z
    · exact h.na z
    · rw [h.at_] at z; cases z
  new := h.new
structure SlOk (K : PySem.W.Frag) (H0 : Hp) (as : List Addr) (F : Addr → Prop) (ρ : Env) (σ : L2.St) (H : Hp) : Prop where
  len : ρ.length = σ.length
  val : ∀ (i : Nat) (d : D), ρ[i]? = some (.val d) → ∃ v, σ[i]? = some (some v) ∧ Rp K F as H d v
  own : ∀ (i : Nat) (xs : List D), ρ[i]? = some (.own xs) → ∃ a vs, σ[i]? = some (some (V.ref a)) ∧ Own H0 as F H a vs ∧ Rps K F as H xs vs
  apart : ∀ (i j : Nat) (xs ys : List D) (a : Addr), ρ[i]? = some (.own xs) → ρ[j]? = some (.own ys) → σ[i]? = some (some (V.ref a)) → σ[j]? = some (some (V.ref a)) → i = j
theorem SlOk.step {H0 : Hp} {ρ : Env} {σ : L2.St} (s : Stp as F H as' F' H') (h : SlOk K H0 as F ρ σ H) : SlOk K H0 as' F' ρ σ H' where
  len := h.len
  val := fun i d e => let ⟨v, h1, h2⟩ := h.val i d e; ⟨v, h1, h2.step s⟩
  own := fun i xs e => let ⟨a, vs, h1, h2, h3⟩ := h.own i xs e; ⟨a, vs, h1, h2.step s, h3.step s⟩
  apart := h.apart
/-- a name is given a value -/
theorem SlOk.setVal {H0 : Hp} {ρ : Env} {σ : L2.St} (h : SlOk K H0 as F ρ σ H) {i : Nat} {d : D} {v : V} (hi : i < ρ.length) (r : Rp K F as H d v) : SlOk K H0 as F (ρ.set i (.val d)) (σ.set i (some v)) H where
  len := by rw [List.length_set, List.length_set]; exact h.len
  val := fun j e hj => by
    by_cases z : i = j
    · subst z
      rw [List.getElem?_set_self hi] at hj
      cases hj
      exact ⟨v, by rw [List.getElem?_set_self (by rw [← h.len]; exact hi)], r⟩
    · rw [List.getElem?_set_ne z] at hj
      rw [List.getElem?_set_ne z]
      exact h.val j e hj
  own := fun j xs hj => by
    by_cases z : i = j
    · subst z
      rw [List.getElem?_set_self hi] at hj
      cases hj
    · rw [List.getElem?_set_ne z] at hj
      rw [List.getElem?_set_ne z]
      exact h.own j xs hj
  apart := fun j l xs ys a h1 h2 h3 h4 => by
    by_cases z : i = j
    · subst z
      rw [List.getElem?_set_self hi] at h1
      cases h1
    · by_cases z2 : i = l
      · subst z2
        rw [List.getElem?_set_self hi] at h2
        cases h2
      · rw [List.getElem?_set_ne z] at h1 h3
        rw [List.getElem?_set_ne z2] at h2 h4
        exact h.apart j l xs ys a h1 h2 h3 h4
/-- a name is forgotten -/
theorem SlOk.setNo {H0 : Hp} {ρ : Env} {σ : L2.St} (h : SlOk K H0 as F ρ σ H) (i : Nat) (w : Option V) : SlOk K H0 as F (ρ.set i .no) (σ.set i w) H where
  len := by rw [List.length_set, List.length_set]; exact h.len
  val := fun j e hj => by
    by_cases z : i = j
    · subst z
      by_cases hi : i < ρ.length
      · rw [List.getElem?_set_self hi] at hj
        cases hj
      · rw [List.getElem?_eq_none (by rw [List.length_set]; omega)] at hj
        cases hj
    · rw [List.getElem?_set_ne z] at hj
      rw [List.getElem?_set_ne z]
      exact h.val j e hj
  own := fun j xs hj => by
    by_cases z : i = j
    · subst z
      by_cases hi : i < ρ.length
      · rw [List.getElem?_set_self hi] at hj
        cases hj
      · rw [List.getElem?_eq_none (by rw [List.length_set]; omega)] at hj
        cases hj
    · rw [List.getElem?_set_ne z] at hj
      rw [List.getElem?_set_ne z]
      exact h.own j xs hj
  apart := fun j l xs ys a h1 h2 h3 h4 => by
    have k : ∀ {m : Nat} {zs : List D}, (ρ.set i .no)[m]? = some (.own zs) → i ≠ m := fun {m zs} q z => by
      subst z
      by_cases hi : i < ρ.length
      · rw [List.getElem?_set_self hi] at q
        cases q
      · rw [List.getElem?_eq_none (by rw [List.length_set]; omega)] at q
        cases q
    have z := k h1
    have z2 := k h2
    rw [List.getElem?_set_ne z] at h1 h3
    rw [List.getElem?_set_ne z2] at h2 h4
    exact h.apart j l xs ys a h1 h2 h3 h4
/-- a list that is no name's own changes -/
theorem SlOk.ext {H0 : Hp} {ρ : Env} {σ : L2.St} (h : SlOk K H0 as F ρ σ H) (s : Ext as F H as F H') (k : ∀ (i : Nat) (xs : List D) (a : Addr), ρ[i]? = some (.own xs) → σ[i]? = some (some (V.ref a)) → H' a = H a) : SlOk K H0 as F ρ σ H' where
  len := h.len
  val := fun i d e => let ⟨v, h1, h2⟩ := h.val i d e; ⟨v, h1, h2.ext s⟩
  own := fun i xs e => by
    obtain ⟨a, vs, h1, h2, h3⟩ := h.own i xs e
    exact ⟨a, vs, h1, ⟨by rw [k i xs a e h1]; exact h2.at_, h2.len, h2.nf, h2.na, h2.new⟩, h3.ext s⟩
  apart := h.apart
/-- within a body: what was at the entry (as0, F0, H0), and what is now -/
structure BI (K : PySem.W.Frag) (cls : Nat → Addr) (as0 : List Addr) (F0 : Addr → Prop) (H0 : Hp) (as : List Addr) (F : Addr → Prop) (M : Mem) (ρ : Env) (σ : L2.St) (H : Hp) : Prop where
  stp : Stp as0 F0 H0 as F H
  mem : MemOk K cls as F M H
  slo : SlOk K H0 as F ρ σ H
theorem BI.step {as0 : List Addr} {F0 : Addr → Prop} {H0 : Hp} {ρ : Env} {σ : L2.St} (h : BI K cls as0 F0 H0 as F M ρ σ H) (s : Stp as F H as' F' H') (m : MemOk K cls as' F' M' H') :
    BI K cls as0 F0 H0 as' F' M' ρ σ H' := ⟨h.stp.trans s, m, h.slo.step s⟩

/-! ### what a datum tells: shallow reading (a list may be a name's own) -/
inductive Sh (K : PySem.W.Frag) (F : Addr → Prop) (as : List Addr) (H : Hp) : D → V → Prop
  | rp {d : D} {v : V} : Rp K F as H d v → Sh K F as H d v
  | own {a : Addr} {vs : List V} {xs : List D} : H a = some (.lst vs) → a ∉ as → vs.length ≤ sizeLine → Rps K F as H xs vs → Sh K F as H (.lst xs) (.ref a)
theorem Sh.step (s : Stp as F H as' F' H') {d : D} {v : V} (h : Sh K F as H d v) : Sh K F' as' H' d v := by
  cases h with
  | rp h => exact .rp (h.step s)
  | own h1 h2 h3 h4 =>
    refine .own (s.keep _ _ h1 h2) (fun z => ?_) h3 (h4.step s)
    rcases s.mem z with z | z
    · exact h2 z
    · rw [h1] at z; cases z
theorem Sh.lst {xs : List D} {v : V} (h : Sh K F as H (.lst xs) v) : ∃ a vs, v = .ref a ∧ LsE K H a vs ∧ vs.length ≤ sizeLine ∧ Rps K F as H xs vs := by
  cases h with
  | rp h => cases h with | lst h1 h2 h3 => exact ⟨_, _, rfl, h1.ls, h2, h3⟩
  | own h1 h2 h3 h4 => exact ⟨_, _, rfl, .inl h1, h3, h4⟩
theorem Sh.tup {xs : List D} {v : V} (h : Sh K F as H (.tup xs) v) : ∃ a vs, v = .ref a ∧ SqT K H a vs ∧ vs.length ≤ sizeLine ∧ Rps K F as H xs vs := by
  cases h with
  | rp h => cases h with | tup h1 h2 h3 => exact ⟨_, _, rfl, h1, h2, h3⟩
theorem Sh.int {i : Int} {v : V} (h : Sh K F as H (.int i) v) : v = .int i := by
  cases h with | rp h => cases h; rfl
theorem Sh.bl {i : Bool} {v : V} (h : Sh K F as H (.bl i) v) : v = .bl i := by
  cases h with | rp h => cases h; rfl
theorem Sh.non {v : V} (h : Sh K F as H .non v) : v = .non := by
  cases h with | rp h => cases h; rfl
theorem Sh.str {cs : List Nat} {v : V} (h : Sh K F as H (.str cs) v) : v = .str ⟨cs.toArray⟩ ∧ strOkC cs = true ∧ cs.length ≤ sizeLine := by
  cases h with | rp h => cases h with | str h1 h2 => exact ⟨rfl, h1, h2⟩
theorem Sh.obj {n : Nat} {v : V} (h : Sh K F as H (.obj n) v) : ∃ a, v = .ref a ∧ as[n]? = some a := by
  cases h with | rp h => cases h with | obj h => exact ⟨_, rfl, h⟩
inductive Shs (K : PySem.W.Frag) (F : Addr → Prop) (as : List Addr) (H : Hp) : List D → List V → Prop
  | nil : Shs K F as H [] []
  | cons {x : D} {v : V} {xs : List D} {vs : List V} : Sh K F as H x v → Shs K F as H xs vs → Shs K F as H (x :: xs) (v :: vs)
theorem Shs.step (s : Stp as F H as' F' H') : ∀ {d : List D} {v : List V}, Shs K F as H d v → Shs K F' as' H' d v
  | _, _, .nil => .nil
  | _, _, .cons h1 h2 => .cons (h1.step s) (Shs.step s h2)
theorem Shs.append : ∀ {xs ys : List D} {vs us : List V}, Shs K F as H xs vs → Shs K F as H ys us → Shs K F as H (xs ++ ys) (vs ++ us)
  | _, _, _, _, .nil, s => s
  | _, _, _, _, .cons r t, s => .cons r (Shs.append t s)
theorem Rps.shs : ∀ {d : List D} {v : List V}, Rps K F as H d v → Shs K F as H d v
  | _, _, .nil => .nil
  | _, _, .cons h1 h2 => .cons (.rp h1) (Rps.shs h2)
end
end Ev

set_option maxRecDepth 100000
set_option maxHeartbeats 2000000
/-! Ev2: the operators, by data. -/
namespace Ev
open PySem PySem.Spec PyProof.Rows L2

/-- what an evaluation gives: the wish Q at its end, the wish W at a raise -/
def OutG {α β : Type} (K : PySem.W.Frag) (cls : Nat → Addr) (R : List Addr → (Addr → Prop) → Hp → α → β → Prop) (W : Nat → D → Mem → List Addr → (Addr → Prop) → Hp → Prop)
    (r : Res α) (as : List Addr) (F : Addr → Prop) (H : Hp) (Q : β → Hp → Prop) : Prop :=
  match r with
  | .ok d M' => ∀ as' F' v H', Stp as F H as' F' H' → MemOk K cls as' F' M' H' → R as' F' H' d v → Q v H'
  | .exc C d M' => ∀ as' F' H', Stp as F H as' F' H' → MemOk K cls as' F' M' H' → W C d M' as' F' H'
  | .bad => False
abbrev RP (K : PySem.W.Frag) : List Addr → (Addr → Prop) → Hp → D → V → Prop := fun as F H d v => Rp K F as H d v
abbrev RS (K : PySem.W.Frag) : List Addr → (Addr → Prop) → Hp → D → V → Prop := fun as F H d v => Sh K F as H d v
abbrev RPs (K : PySem.W.Frag) : List Addr → (Addr → Prop) → Hp → List D → List V → Prop := fun as F H d v => Rps K F as H d v
abbrev RSs (K : PySem.W.Frag) : List Addr → (Addr → Prop) → Hp → List D → List V → Prop := fun as F H d v => Shs K F as H d v
abbrev RB : List Addr → (Addr → Prop) → Hp → Bool → Bool → Prop := fun _ _ _ d v => d = v
abbrev XW := Nat → D → Mem → List Addr → (Addr → Prop) → Hp → Prop

section
variable {α β γ δ : Type} {K : PySem.W.Frag} {cls : Nat → Addr} {R : List Addr → (Addr → Prop) → Hp → α → β → Prop} {R2' : List Addr → (Addr → Prop) → Hp → γ → δ → Prop} {W : XW}
  {as as' : List Addr} {F F' : Addr → Prop} {H H' : Hp} {M : Mem}
theorem OutG.from {r : Res α} {Q : β → Hp → Prop} (s : Stp as F H as' F' H') (h : OutG K cls R W r as F H Q) : OutG K cls R W r as' F' H' Q := by
  cases r with
  | ok d M' => exact fun as2 F2 v H2 s2 m2 r2 => h as2 F2 v H2 (s.trans s2) m2 r2
  | exc C d M' => exact fun as2 F2 H2 s2 m2 => h as2 F2 H2 (s.trans s2) m2
  | bad => exact h
theorem OutG.imp {r : Res α} {Q Q' : β → Hp → Prop} (h : OutG K cls R W r as F H Q) (k : ∀ v H', Q v H' → Q' v H') : OutG K cls R W r as F H Q' := by
  cases r with
  | ok d M' => exact fun as2 F2 v H2 s2 m2 r2 => k _ _ (h as2 F2 v H2 s2 m2 r2)
  | exc C d M' => exact h
  | bad => exact h
/-- where one evaluation stands behind another one -/
theorem OutG.bind {r : Res α} {f : α → Mem → Res γ} {Q : δ → Hp → Prop} (h : OutG K cls R2' W (r.bind f) as F H Q) :
    OutG K cls R W r as F H (fun v H1 => ∃ as1 F1 M1 d, Stp as F H as1 F1 H1 ∧ MemOk K cls as1 F1 M1 H1 ∧ R as1 F1 H1 d v ∧ OutG K cls R2' W (f d M1) as1 F1 H1 Q) := by
  cases r with
  | ok d M' => exact fun as1 F1 v H1 s1 m1 r1 => ⟨as1, F1, M', d, s1, m1, r1, h.from s1⟩
  | exc C d M' => exact h
  | bad => exact h
/-- where the first part is reckoned without the heap -/
theorem OutG.lift_bind {o : Option α} {f : α → Mem → Res γ} {Q : δ → Hp → Prop} (h : OutG K cls R2' W ((lift o M).bind f) as F H Q) :
    ∃ a, o = some a ∧ OutG K cls R2' W (f a M) as F H Q := by
  cases o with
  | none => exact h.elim
  | some a => exact ⟨a, rfl, h⟩
theorem OutG.lift {o : Option α} {Q : β → Hp → Prop} (h : OutG K cls R W (lift o M) as F H Q) : ∃ a, o = some a ∧ OutG K cls R W (.ok a M) as F H Q := by
  cases o with
  | none => exact h.elim
  | some a => exact ⟨a, rfl, h⟩
/-- a value that asks nothing of the heap -/
theorem OutG.now {a : α} {v : β} {Q : β → Hp → Prop} (h : OutG K cls R W (.ok a M) as F H Q) (m : MemOk K cls as F M H) (r : R as F H a v) : Q v H := h as F v H .refl m r
/-- a new tuple -/
theorem OutG.newT {xs : List D} {vs : List V} {Q : VK} (h : OutG K cls (RP K) W (.ok (.tup xs) M) as F H Q) (m : MemOk K cls as F M H) (r : Rps K F as H xs vs) (z : vs.length ≤ sizeLine) :
    ∀ p, H p = none → Q (.ref p) (upd H p (.tup vs)) := fun p hp =>
  h as F (.ref p) _ (Stp.laid hp) (m.laid hp) (.tup (.inl (.inl upd_same)) z (r.step (Stp.laid hp)))
/-- a new list -/
theorem OutG.newL {xs : List D} {vs : List V} {Q : VK} (h : OutG K cls (RP K) W (.ok (.lst xs) M) as F H Q) (m : MemOk K cls as F M H) (r : Rps K F as H xs vs) (z : vs.length ≤ sizeLine) :
    ∀ p, H p = none → Q (.ref p) (upd H p (.lst vs)) := fun p hp =>
  h as _ (.ref p) _ (Stp.laidF hp) (m.laidF hp) (.lst (.inl ⟨.inr rfl, upd_same⟩) z (r.step (Stp.laidF hp)))
end

theorem str_append (x y : List Nat) : (⟨x.toArray⟩ : Str) ++ ⟨y.toArray⟩ = ⟨(x ++ y).toArray⟩ := by
  show Str.append _ _ = _
  unfold Str.append
  simp
theorem strOkC_append {x y : List Nat} (h1 : strOkC x = true) (h2 : strOkC y = true) : strOkC (x ++ y) = true := by
  unfold strOkC at *
  rw [List.all_append, h1, h2]
  rfl
theorem strOkC_of {x y : List Nat} (h : strOkC x = true) (hs : ∀ c ∈ y, c ∈ x) : strOkC y = true := by
  unfold strOkC at *
  rw [List.all_eq_true] at *
  exact fun c hc => h c (hs c hc)

section
variable {X : Cx} {cls : Nat → Addr} {W : XW}
/-- a two-place operation, by data -/
def rQ (K : PySem.W.Frag) (cls : Nat → Addr) (W : XW) (f : Mem → D → D → Option D) : R2 := fun x y H Q =>
  ∃ as F M a b, MemOk K cls as F M H ∧ Sh K F as H a x ∧ Sh K F as H b y ∧ OutG K cls (RP K) W (lift (f M a b) M) as F H Q

theorem rep_flat_len {α : Type} (x : List α) : ∀ n : Nat, (List.replicate n x).flatten.length = n * x.length
  | 0 => by simp
  | n + 1 => by rw [List.replicate_succ, List.flatten_cons, List.length_append, rep_flat_len x n, Nat.succ_mul, Nat.add_comm]
theorem strOkC_rep {x : List Nat} (h : strOkC x = true) (n : Nat) : strOkC (List.replicate n x).flatten = true := by
  refine strOkC_of h fun c hc => ?_
  obtain ⟨l, hl, hc⟩ := List.mem_flatten.mp hc
  rw [(List.mem_replicate.mp hl).2] at hc
  exact hc
theorem Rps.rep {K : PySem.W.Frag} {F : Addr → Prop} {as : List Addr} {H : Hp} {xs : List D} {vs : List V} (h : Rps K F as H xs vs) : ∀ n : Nat, Rps K F as H (List.replicate n xs).flatten (List.replicate n vs).flatten
  | 0 => .nil
  | n + 1 => by
    rw [List.replicate_succ, List.replicate_succ, List.flatten_cons, List.flatten_cons]
    exact h.append (Rps.rep h n)
theorem foldl_cps (x : List Nat) : ∀ (n : Nat) (acc : Array Nat), (List.replicate n x.toArray).foldl (· ++ ·) acc = acc ++ (List.replicate n x).flatten.toArray
  | 0, acc => by simp
  | n + 1, acc => by
    rw [List.replicate_succ, List.foldl_cons, foldl_cps x n, List.replicate_succ, List.flatten_cons]
    simp
theorem mul_txt (x : List Nat) (j : Int) : PySem.Txt.mul ⟨x.toArray⟩ j = ⟨((List.replicate j.toNat x).flatten).toArray⟩ := by
  unfold PySem.Txt.mul
  split
  · rename_i h
    have e : j.toNat = 0 := by omega
    rw [e]; rfl
  · split
    · rename_i h1 h2
      simp only [Bool.or_eq_true, beq_iff_eq] at h2
      rcases h2 with h2 | h2
      · subst h2
        simp
      · have e : x = [] := by
          have : x.length = 0 := by simpa [Str.length] using h2
          exact List.length_eq_zero_iff.mp this
        subst e
        have : ∀ n : Nat, (List.replicate n ([] : List Nat)).flatten = [] := fun n => by
          apply List.eq_nil_of_length_eq_zero
          rw [rep_flat_len]; simp
        rw [this]
    · rw [foldl_cps]
      simp

theorem opr_bin (hu : X.A.units + 200 < cLine) : ∀ (op : Bop), OpR X (binaryOp (match op with | .add => .Add | .sub => .Sub | .mul => .Mult | .fdiv => .FloorDiv | .mod => .Mod | .pow => .Pow)) (rQ X.K cls W fun _ => binQ op) := by
  intro op pins s σ H x y v u Q I rx ry h
  obtain ⟨as, F, M, a, b, m, sa, sb, h⟩ := h
  have hl := big_line
  have hn := line63
  cases op with
  | add =>
    cases a <;> cases b <;> first | exact (h : False).elim | skip
    · have e1 := sa.int; have e2 := sb.int
      exact op_add pins s σ H x y v u Q I rx ry ⟨_, _, e1, e2, h.now m (.int _)⟩
    · rename_i cx cy
      obtain ⟨e1, o1, z1⟩ := sa.str
      obtain ⟨e2, o2, z2⟩ := sb.str
      have h : OutG X.K cls (RP X.K) W (lift (if cx.length + cy.length ≤ big then some (.str (cx ++ cy)) else none) M) as F H Q := h
      split at h
      · rename_i hz
        refine op_add_str pins s σ H x y v u Q I rx ry ⟨_, _, e1, e2, by simpa [Str.length, ← hl] using hz, ?_⟩
        rw [str_append]
        exact h.now m (.str (strOkC_append o1 o2) (by rw [List.length_append]; omega))
      · exact h.elim
    · rename_i xs ys
      obtain ⟨p, vs, e1, l1, z1, r1⟩ := sa.tup
      obtain ⟨q, us, e2, l2, z2, r2⟩ := sb.tup
      have n1 := r1.length
      have n2 := r2.length
      have h : OutG X.K cls (RP X.K) W (lift (if xs.length + ys.length ≤ big then some (.tup (xs ++ ys)) else none) M) as F H Q := h
      split at h
      · rename_i hz
        refine op_catA pins s σ H x y v u Q I rx ry ?_
        refine ⟨p, q, vs, us, e1, e2, l1, l2, by omega, fun e => ?_, fun e1' e2' => ?_, fun e1' e2' => ?_⟩
        · subst e
          cases r1
          exact h.now m (.tup l2 z2 r2)
        · subst e2'
          cases r2
          rw [List.append_nil] at h
          exact h.now m (.tup l1 z1 r1)
        · exact h.newT m (r1.append r2) (by rw [List.length_append]; omega)
      · exact h.elim
    · rename_i xs ys
      obtain ⟨p, vs, e1, l1, z1, r1⟩ := sa.lst
      obtain ⟨q, us, e2, l2, z2, r2⟩ := sb.lst
      have n1 := r1.length
      have n2 := r2.length
      have h : OutG X.K cls (RP X.K) W (lift (if xs.length + ys.length ≤ big then some (.lst (xs ++ ys)) else none) M) as F H Q := h
      split at h
      · rename_i hz
        subst e1 e2
        cases rx
        cases ry
        obtain ⟨its, n, rv, e, _⟩ := Inv.ls I l1
        obtain ⟨its2, n2', rv2, e2, _⟩ := Inv.ls I l2
        have q1 := rv.length
        have q2 := rv2.length
        refine PySem.P.add_list e e2 ?_ (by rw [List.size_toArray, List.size_toArray]; omega)
        have ea : its.toArray ++ its2.toArray = (its ++ its2).toArray := by simp
        rw [ea]
        exact ⟨.ref _, _, I.lnew (t' := s.toks) (rv.append rv2) (by rw [List.length_append]; omega), rfl, h.newL m (r1.append r2) (by rw [List.length_append]; omega) _ I.fresh⟩
      · exact h.elim
  | sub =>
    cases a <;> cases b <;> first | exact (h : False).elim | skip
    have e1 := sa.int; have e2 := sb.int
    exact op_sub pins s σ H x y v u Q I rx ry ⟨_, _, e1, e2, h.now m (.int _)⟩
  | mul =>
    cases a <;> cases b <;> first | exact (h : False).elim | skip
    · rename_i i j
      have e1 := sa.int; have e2 := sb.int
      have h : OutG X.K cls (RP X.K) W (lift (if mulOk i j = true then some (.int (i * j)) else none) M) as F H Q := h
      split at h
      · rename_i hz
        refine op_mul pins s σ H x y v u Q I rx ry ⟨_, _, e1, e2, ?_, h.now m (.int _)⟩
        unfold mulOk at hz
        simp only [Bool.or_eq_true, decide_eq_true_eq] at hz
        rcases hz with hz | hz
        · exact .inl ⟨by omega, by omega⟩
        · exact .inr ⟨by omega, by omega⟩
      · exact h.elim
    · rename_i cx j
      obtain ⟨e1, o1, z1⟩ := sa.str
      have e2 := sb.int
      have h : OutG X.K cls (RP X.K) W (lift (if 0 ≤ j ∧ j ≤ 1000 ∧ cx.length ≤ 1000 then some (.str (List.replicate j.toNat cx).flatten) else none) M) as F H Q := h
      split at h
      · rename_i hz
        subst e1 e2
        obtain ⟨t, rfl⟩ := rx
        obtain ⟨t', rfl⟩ := ry
        have small : j.toNat * cx.length ≤ 1000000 := Nat.le_trans (Nat.mul_le_mul (show j.toNat ≤ 1000 by omega) hz.2.2) (by decide)
        have hlen : (List.replicate j.toNat cx).flatten.length ≤ 1000000 := by
          rw [rep_flat_len]
          exact small
        have hq : Q (.str ⟨((List.replicate j.toNat cx).flatten).toArray⟩) H := h.now m (.str (strOkC_rep o1 _) (by rw [← hl]; exact Nat.le_trans hlen (by decide)))
        refine PySem.SB.mul ⟨?_, fun h1 h2 => ?_, fun h1 h2 => ?_⟩ (fun t' k => ?_)
        · have d1 : decide (j < -(2 ^ 63 : Int)) = false := decide_eq_false (by omega)
          have d2 : decide (j ≥ 2 ^ 63) = false := decide_eq_false (by omega)
          rw [d1, d2]; rfl
        · have hb : (1000 : Int) ≤ (2 ^ 63 - 1) / j := by
            rw [Int.le_ediv_iff_mul_le (by omega)]
            omega
          have : ((Str.mk cx.toArray).length : Int) ≤ 1000 := by
            have : (Str.mk cx.toArray).length = cx.length := by simp [Str.length]
            omega
          omega
        · have e : (Str.mk cx.toArray).length * j.toNat ≤ 1000000 := by
            have : (Str.mk cx.toArray).length = cx.length := by simp [Str.length]
            rw [this, Nat.mul_comm]
            exact small
          have hs := sizeLine_eq
          have : ¬ PySem.Builtin.Str.tooLong ((Str.mk cx.toArray).length * j.toNat) = true := by
            unfold PySem.Builtin.Str.tooLong
            simp only [decide_eq_true_eq]
            omega
          simpa using this
        · rw [mul_txt]
          exact ⟨.str _, H, I.tok _, ⟨_, rfl⟩, hq⟩
      · exact h.elim
    · rename_i xs j
      obtain ⟨p, vs, e1, l1, z1, r1⟩ := sa.tup
      have e2 := sb.int
      have n1 := r1.length
      have h : OutG X.K cls (RP X.K) W (lift (if 2 ≤ j ∧ j ≤ 1000 ∧ xs.length ≤ 1000 ∧ xs.isEmpty = false then some (.tup (List.replicate j.toNat xs).flatten) else none) M) as F H Q := h
      split at h
      · rename_i hz
        refine op_repT pins s σ H x y v u Q I rx ry ⟨p, j, vs, e1, e2, l1, ?_, hz.1, hz.2.1, by omega, h.newT m (r1.rep _) ?_⟩
        · intro e
          subst e
          cases r1
          exact absurd hz.2.2.2 (by simp)
        · rw [rep_flat_len]
          exact Nat.le_trans (Nat.mul_le_mul (show j.toNat ≤ 1000 by omega) (show vs.length ≤ 1000 by omega)) (by rw [← hl]; decide)
      · exact h.elim
  | fdiv =>
    cases a <;> cases b <;> first | exact (h : False).elim | skip
    rename_i i j
    have e1 := sa.int; have e2 := sb.int
    have h : OutG X.K cls (RP X.K) W (lift (if j ≠ 0 ∧ j.natAbs < 1073741824 then some (.int (i.fdiv j)) else none) M) as F H Q := h
    split at h
    · rename_i hz
      exact op_fdivN pins s σ H x y v u Q I rx ry ⟨_, _, e1, e2, hz, h.now m (.int _)⟩
    · exact h.elim
  | mod =>
    cases a <;> cases b <;> first | exact (h : False).elim | skip
    rename_i i j
    have e1 := sa.int; have e2 := sb.int
    have h : OutG X.K cls (RP X.K) W (lift (if j ≠ 0 then some (.int (i.fmod j)) else none) M) as F H Q := h
    split at h
    · rename_i hz
      exact op_modN pins s σ H x y v u Q I rx ry ⟨_, _, e1, e2, hz, h.now m (.int _)⟩
    · exact h.elim
  | pow =>
    cases a <;> cases b <;> first | exact (h : False).elim | skip
    rename_i i j
    have e1 := sa.int; have e2 := sb.int
    have h : OutG X.K cls (RP X.K) W (lift (if 0 ≤ j ∧ j ≤ 1000000 ∧ i.natAbs < 18446744073709551616 then some (.int (i ^ j.toNat)) else none) M) as F H Q := h
    split at h
    · rename_i hz
      exact op_pow pins s σ H x y v u Q I rx ry ⟨_, _, e1, e2, ⟨hz.1, hz.2.1, by omega⟩, h.now m (.int _)⟩
    · exact h.elim
end
end Ev

set_option maxRecDepth 100000
set_option maxHeartbeats 2000000
/-! Ev3: comparisons, truth, subscripts, slices, by data. -/
namespace Ev
open PySem PySem.Spec PyProof.Rows L2

mutual
def toPy : D → PyData
  | .non => .none
  | .bl b => .bool b
  | .int i => .int i
  | .str cs => .str ⟨cs.toArray⟩
  | .tup xs => .tuple (toPys xs)
  | .lst xs => .list (toPys xs)
  | .obj _ => .none
def toPys : List D → List PyData
  | [] => []
  | x :: xs => toPy x :: toPys xs
end
theorem toPys_map : ∀ xs : List D, toPys xs = xs.map toPy
  | [] => by simp [toPys]
  | x :: xs => by simp [toPys, toPys_map xs]
mutual
theorem dep_py : ∀ d : D, (toPy d).depth = d.dep
  | .non => rfl
  | .bl _ => rfl
  | .int _ => rfl
  | .str _ => rfl
  | .obj _ => rfl
  | .tup xs => by simp [toPy, PyData.depth, D.dep, deps_py xs]
  | .lst xs => by simp [toPy, PyData.depth, D.dep, deps_py xs]
theorem deps_py : ∀ d : List D, PyData.depthAll (toPys d) = deps d
  | [] => rfl
  | x :: xs => by simp [toPys, PyData.depthAll, deps, dep_py x, deps_py xs]
end
theorem beq_str (x y : List Nat) : ((⟨x.toArray⟩ : Str) == ⟨y.toArray⟩) = (x == y) := by
  rw [Bool.eq_iff_iff]
  simp
mutual
theorem eqv_py : ∀ a b : D, a.nobj = true → b.nobj = true → PyData.eqv (toPy a) (toPy b) = eqD a b
  | .non, .non, _, _ => rfl
  | .non, .bl _, _, _ => rfl
  | .non, .int _, _, _ => rfl
  | .non, .str _, _, _ => rfl
  | .non, .tup _, _, _ => by simp [toPy, PyData.eqv, eqD]
  | .non, .lst _, _, _ => by simp [toPy, PyData.eqv, eqD]
  | .bl _, .non, _, _ => rfl
  | .bl _, .bl _, _, _ => by simp [toPy, PyData.eqv, eqD]
  | .bl _, .int _, _, _ => by simp [toPy, PyData.eqv, eqD]
  | .bl _, .str _, _, _ => rfl
  | .bl _, .tup _, _, _ => by simp [toPy, PyData.eqv, eqD]
  | .bl _, .lst _, _, _ => by simp [toPy, PyData.eqv, eqD]
  | .int _, .non, _, _ => rfl
  | .int _, .bl _, _, _ => by simp [toPy, PyData.eqv, eqD]
  | .int _, .int _, _, _ => by simp [toPy, PyData.eqv, eqD]
  | .int _, .str _, _, _ => rfl
  | .int _, .tup _, _, _ => by simp [toPy, PyData.eqv, eqD]
  | .int _, .lst _, _, _ => by simp [toPy, PyData.eqv, eqD]
  | .str _, .non, _, _ => rfl
  | .str _, .bl _, _, _ => rfl
  | .str _, .int _, _, _ => rfl
  | .str x, .str y, _, _ => by simp only [toPy, PyData.eqv, eqD, beq_str]
  | .str _, .tup _, _, _ => by simp [toPy, PyData.eqv, eqD]
  | .str _, .lst _, _, _ => by simp [toPy, PyData.eqv, eqD]
  | .tup _, .non, _, _ => by simp [toPy, PyData.eqv, eqD]
  | .tup _, .bl _, _, _ => by simp [toPy, PyData.eqv, eqD]
  | .tup _, .int _, _, _ => by simp [toPy, PyData.eqv, eqD]
  | .tup _, .str _, _, _ => by simp [toPy, PyData.eqv, eqD]
  | .tup xs, .tup ys, h1, h2 => by
    simp only [toPy, PyData.eqv, eqD]
    exact eqvs_py xs ys (by simpa [D.nobj] using h1) (by simpa [D.nobj] using h2)
  | .tup _, .lst _, _, _ => by simp [toPy, PyData.eqv, eqD]
  | .lst _, .non, _, _ => by simp [toPy, PyData.eqv, eqD]
  | .lst _, .bl _, _, _ => by simp [toPy, PyData.eqv, eqD]
  | .lst _, .int _, _, _ => by simp [toPy, PyData.eqv, eqD]
  | .lst _, .str _, _, _ => by simp [toPy, PyData.eqv, eqD]
  | .lst _, .tup _, _, _ => by simp [toPy, PyData.eqv, eqD]
  | .lst xs, .lst ys, h1, h2 => by
    simp only [toPy, PyData.eqv, eqD]
    exact eqvs_py xs ys (by simpa [D.nobj] using h1) (by simpa [D.nobj] using h2)
  | .obj _, _, h, _ => by simp [D.nobj] at h
  | _, .obj _, _, h => by simp [D.nobj] at h
theorem eqvs_py : ∀ a b : List D, nobjs a = true → nobjs b = true → PyData.eqvAll (toPys a) (toPys b) = eqDs a b
  | [], [], _, _ => rfl
  | [], _ :: _, _, _ => rfl
  | _ :: _, [], _, _ => rfl
  | x :: xs, y :: ys, h1, h2 => by
    simp only [nobjs, Bool.and_eq_true] at h1 h2
    simp only [toPys, PyData.eqvAll, eqDs, eqv_py x y h1.1 h2.1, eqvs_py xs ys h1.2 h2.2]
end
section
variable {K : PySem.W.Frag} {F : Addr → Prop} {as : List Addr} {H : Hp}
mutual
theorem Rp.dp : ∀ {d : D} {v : V}, d.nobj = true → Rp K F as H d v → Dp K H v (toPy d) ∧ (toPy d).canLay0 = true
  | _, _, _, .non => ⟨.non, rfl⟩
  | _, _, _, .bl b => ⟨.bl b, rfl⟩
  | _, _, _, .int i => ⟨.int i, rfl⟩
  | _, _, _, .str h1 h2 => ⟨.str _, by
      have : ∀ cs : List Nat, strOkC cs = true → PyData.strOk ⟨cs.toArray⟩ = true := fun cs h => by
        unfold PyData.strOk
        unfold strOkC at h
        rw [← Array.all_toList]
        exact h
      simpa [toPy, PyData.canLay0] using this _ h1⟩
  | .tup xs, _, h, .tup h1 h2 h3 => by
    obtain ⟨a, b⟩ := Rps.dp (by simpa [D.nobj] using h) h3
    exact ⟨.tup h1 a, by simpa [toPy, PyData.canLay0] using b⟩
  | .lst xs, _, h, .lst h1 h2 h3 => by
    obtain ⟨a, b⟩ := Rps.dp (by simpa [D.nobj] using h) h3
    exact ⟨.lst h1.ls.sq a, by simpa [toPy, PyData.canLay0] using b⟩
  | .obj _, _, h, .obj _ => by simp [D.nobj] at h
theorem Rps.dp : ∀ {d : List D} {v : List V}, nobjs d = true → Rps K F as H d v → DpAll K H v (toPys d) ∧ PyData.canLayAll0 (toPys d) = true
  | _, _, _, .nil => ⟨.nil, rfl⟩
  | x :: xs, _, h, .cons h1 h2 => by
    simp only [nobjs, Bool.and_eq_true] at h
    obtain ⟨a, b⟩ := Rp.dp h.1 h1
    obtain ⟨c, d⟩ := Rps.dp h.2 h2
    exact ⟨.cons a c, by simp [toPys, PyData.canLayAll0, b, d]⟩
end
theorem Sh.dp {d : D} {v : V} (h : d.nobj = true) (s : Sh K F as H d v) : Dp K H v (toPy d) ∧ (toPy d).canLay0 = true := by
  cases s with
  | rp s => exact s.dp h
  | own h1 h2 h3 h4 =>
    obtain ⟨a, b⟩ := Rps.dp (by simpa [D.nobj] using h) h4
    exact ⟨.lst (.inl (.inl h1)) a, by simpa [toPy, PyData.canLay0] using b⟩
end

theorem eqOk_of {a b : D} (h : eqOk a b = true) : a.nobj = true ∧ b.nobj = true ∧ min (toPy a).depth (toPy b).depth ≤ 150 := by
  unfold eqOk maxDep at h
  simp only [Bool.and_eq_true, Bool.or_eq_true, decide_eq_true_eq] at h
  rw [dep_py, dep_py]
  exact ⟨h.1.1, h.1.2, by omega⟩

def copOf : Cop → CmpOp
  | .eq => .Eq | .ne => .NotEq | .lt => .Lt | .le => .LtE | .gt => .Gt | .ge => .GtE | .is => .Is | .isNot => .IsNot | .in_ => .In | .notIn => .NotIn

theorem is_bool_gen {M : Model} {A : Around} {E : Value → Shared → Prop} {s : Shared} {x : V} {v : Value} {b : Bool} {Q : Value → Shared → Prop} (rx : RelV x v) (h : Q (.bool (v == .bool b)) s) : wpAny M A (compareOp .Is v (.bool b)) Q E s := by
  cases x <;> first | (cases rx; exact wpAny_pure h) | (obtain ⟨t, rfl⟩ := rx; exact wpAny_pure h)
theorem isnot_bool_gen {M : Model} {A : Around} {E : Value → Shared → Prop} {s : Shared} {x : V} {v : Value} {b : Bool} {Q : Value → Shared → Prop} (rx : RelV x v) (h : Q (.bool (!(v == .bool b))) s) : wpAny M A (compareOp .IsNot v (.bool b)) Q E s := by
  cases x <;> first | (cases rx; exact wpAny_pure h) | (obtain ⟨t, rfl⟩ := rx; exact wpAny_pure h)
theorem bool_beq (a b : Bool) : (Value.bool a == Value.bool b) = (a == b) := by cases a <;> cases b <;> rfl

section
variable {X : Cx} {cls : Nat → Addr} {W : XW} {K : PySem.W.Frag} {F : Addr → Prop} {as : List Addr} {H : Hp}
/-- is: against None or a bool -/
theorem is_sh {a b : D} {x y : V} {v u : Value} {k : Bool} (h : isC a b = some k) (sa : Sh K F as H a x) (sb : Sh K F as H b y) (rx : RelV x v) (ry : RelV y u) :
    (u = .none ∧ (v == Value.none) = k) ∨ ∃ c, u = .bool c ∧ (v == .bool c) = k := by
  cases b with
  | non =>
    have := sb.non; subst this; cases ry
    refine .inl ⟨rfl, ?_⟩
    cases a with
    | non => have := sa.non; subst this; cases rx; cases h; rfl
    | bl c => have := sa.bl; subst this; cases rx; cases h; rfl
    | int c => have := sa.int; subst this; obtain ⟨t, rfl⟩ := rx; cases h; rfl
    | str c => have := sa.str.1; subst this; obtain ⟨t, rfl⟩ := rx; cases h; rfl
    | tup c => obtain ⟨p, _, rfl, _⟩ := sa.tup; cases rx; cases h; rfl
    | lst c => obtain ⟨p, _, rfl, _⟩ := sa.lst; cases rx; cases h; rfl
    | obj c => obtain ⟨p, rfl, _⟩ := sa.obj; cases rx; cases h; rfl
  | bl d =>
    have := sb.bl; subst this; cases ry
    refine .inr ⟨d, rfl, ?_⟩
    cases a with
    | non => have := sa.non; subst this; cases rx; cases h; rfl
    | bl c => have := sa.bl; subst this; cases rx; cases h; exact bool_beq _ _
    | int c => have := sa.int; subst this; obtain ⟨t, rfl⟩ := rx; cases h; rfl
    | str c => have := sa.str.1; subst this; obtain ⟨t, rfl⟩ := rx; cases h; rfl
    | tup c => obtain ⟨p, _, rfl, _⟩ := sa.tup; cases rx; cases h; rfl
    | lst c => obtain ⟨p, _, rfl, _⟩ := sa.lst; cases rx; cases h; rfl
    | obj c => obtain ⟨p, rfl, _⟩ := sa.obj; cases rx; cases h; rfl
  | int d => cases a <;> cases h
  | str d => cases a <;> cases h
  | tup d => cases a <;> cases h
  | lst d => cases a <;> cases h
  | obj d => cases a <;> cases h

/-- a comparison, by data -/
def rCmp (K : PySem.W.Frag) (cls : Nat → Addr) (op : Cop) : R2 := fun x y H Q =>
  ∃ as F M a b k, MemOk K cls as F M H ∧ Sh K F as H a x ∧ Sh K F as H b y ∧ cmpQ M op a b = some k ∧ Q (.bl k) H
theorem bindQ {o : Option Bool} {k : Bool} (h : o.map (!·) = some k) : ∃ k', o = some k' ∧ k = !k' := by
  cases o with
  | none => cases h
  | some b => cases h; exact ⟨b, rfl, rfl⟩
theorem inDs_py {x : D} (hx : x.nobj = true) : ∀ {ys : List D}, nobjs ys = true → ((toPys ys).any fun z => PyData.eqv z (toPy x)) = inDs x ys
  | [], _ => rfl
  | y :: ys, h => by
    simp only [nobjs, Bool.and_eq_true] at h
    simp only [toPys, List.any_cons, inDs, eqv_py y x h.1 hx]
    rw [inDs_py hx h.2]
    rfl
theorem opr_in (hu : X.A.units + 200 < cLine) {pins : List (Addr × Obj)} {s : Shared} {σ : L2.St} {M : Mem} {a b : D} {x y : V} {v u : Value} {k : Bool} {H : Hp} (I : Inv X pins σ H s) (rx : RelV x v) (ry : RelV y u)
    (sa : Sh X.K F as H a x) (sb : Sh X.K F as H b y) (h : inQ a M b = some k) {Q : Value → Shared → Prop} (neg : Bool) (q : ∀ t, Q (.bool (if neg then !k else k)) { s with toks := t }) :
    wpAny (model X.prog X.w) X.A (compareOp (if neg then .NotIn else .In) v u) Q X.xe s := by
  cases b with
  | tup ys =>
    have h : (if eqOk a (.tup ys) then some (inDs a ys) else none) = some k := h
    split at h
    · rename_i ok
      cases h
      obtain ⟨n1, n2, hd⟩ := eqOk_of ok
      obtain ⟨d1, c1⟩ := sa.dp n1
      obtain ⟨d2, c2⟩ := sb.dp n2
      have n2' : nobjs ys = true := by simpa [D.nobj] using n2
      obtain ⟨as1, r1⟩ := Dp.reads I _ _ _ d1 rx
      obtain ⟨as2, r2⟩ := Dp.reads I _ _ _ d2 ry
      have c2' : PyData.canLayAll0 (toPys ys) = true := by simpa [toPy, PyData.canLay0] using c2
      have hd' : X.A.units + 1 + min (PyData.depthAll (toPys ys)) (toPy a).depth < cLine := by
        have e : (toPy (.tup ys)).depth = PyData.depthAll (toPys ys) + 1 := by simp [toPy, PyData.depth]
        rw [e] at hd
        omega
      have q := q s.toks
      cases neg with
      | false => exact SeqAt.in_tuple_reads r2 r1 c2' c1 hd' (by rw [inDs_py n1 n2']; exact q)
      | true => exact SeqAt.notIn_tuple_reads r2 r1 c2' c1 hd' (by rw [inDs_py n1 n2']; exact q)
    · cases h
  | lst ys =>
    have h : (if eqOk a (.lst ys) then some (inDs a ys) else none) = some k := h
    split at h
    · rename_i ok
      cases h
      obtain ⟨n1, n2, hd⟩ := eqOk_of ok
      obtain ⟨d1, c1⟩ := sa.dp n1
      obtain ⟨d2, c2⟩ := sb.dp n2
      have n2' : nobjs ys = true := by simpa [D.nobj] using n2
      obtain ⟨as1, r1⟩ := Dp.reads I _ _ _ d1 rx
      obtain ⟨as2, r2⟩ := Dp.reads I _ _ _ d2 ry
      have c2' : PyData.canLayAll0 (toPys ys) = true := by simpa [toPy, PyData.canLay0] using c2
      have hd' : X.A.units + 1 + min (PyData.depthAll (toPys ys)) (toPy a).depth < cLine := by
        have e : (toPy (.lst ys)).depth = PyData.depthAll (toPys ys) + 1 := by simp [toPy, PyData.depth]
        rw [e] at hd
        omega
      have q := q s.toks
      cases neg with
      | false => exact SeqAt.in_list_reads r2 r1 c2' c1 hd' (by rw [inDs_py n1 n2']; exact q)
      | true => exact SeqAt.notIn_list_reads r2 r1 c2' c1 hd' (by rw [inDs_py n1 n2']; exact q)
    · cases h
  | str cs =>
    cases a with
    | str cx =>
      cases cx with
      | nil => cases h
      | cons c cx =>
      cases cx with
      | cons _ _ => cases h
      | nil =>
        obtain ⟨e1, _⟩ := sa.str
        obtain ⟨e2, _⟩ := sb.str
        subst e1 e2
        obtain ⟨t, rfl⟩ := rx
        obtain ⟨t', rfl⟩ := ry
        cases h
        have e := PySem.StrLaws.found_one ⟨cs.toArray⟩ c
        have q := q s.toks
        cases neg with
        | false => exact PyProof.Rows.in_str (by rw [e]; exact q)
        | true => exact PyProof.Rows.notIn_str (by rw [e]; exact q)
    | _ => cases h
  | _ => cases h
theorem opr_cmp (hu : X.A.units + 200 < cLine) : ∀ (op : Cop), OpR X (compareOp (copOf op)) (rCmp X.K cls op) := by
  intro op pins s σ H x y v u Q I rx ry h
  obtain ⟨as, F, M, a, b, k, m, sa, sb, h, q⟩ := h
  have eq_case : ∀ {k}, eqQ a b = some k → ∃ as1 as2, Reads s.heap v (toPy a) as1 ∧ Reads s.heap u (toPy b) as2 ∧ (toPy a).canLay0 = true ∧ (toPy b).canLay0 = true ∧ X.A.units + min (toPy a).depth (toPy b).depth < cLine ∧ PyData.eqv (toPy a) (toPy b) = k := fun {k} h => by
    unfold eqQ at h
    split at h
    · rename_i ok
      cases h
      obtain ⟨n1, n2, hd⟩ := eqOk_of ok
      obtain ⟨d1, c1⟩ := sa.dp n1
      obtain ⟨d2, c2⟩ := sb.dp n2
      obtain ⟨as1, r1⟩ := Dp.reads I _ _ _ d1 rx
      obtain ⟨as2, r2⟩ := Dp.reads I _ _ _ d2 ry
      exact ⟨as1, as2, r1, r2, c1, c2, by omega, eqv_py a b n1 n2⟩
    · cases h
  cases op with
  | eq =>
    obtain ⟨as1, as2, r1, r2, c1, c2, hd, e⟩ := eq_case h
    exact SeqAt.compareEq_reads r1 r2 c1 c2 hd (by rw [e]; exact ⟨.bl k, H, I, rfl, q⟩)
  | ne =>
    obtain ⟨k', h', rfl⟩ := bindQ h
    obtain ⟨as1, as2, r1, r2, c1, c2, hd, e⟩ := eq_case h'
    exact SeqAt.compareNe_reads r1 r2 c1 c2 hd (by rw [e]; exact ⟨.bl _, H, I, rfl, q⟩)
  | lt =>
    cases a <;> cases b <;> first | (cases h; done) | skip
    · cases h; exact op_lt pins s σ H x y v u Q I rx ry ⟨_, _, sa.int, sb.int, q⟩
    · cases h; exact op_lt_str pins s σ H x y v u Q I rx ry ⟨_, _, sa.str.1, sb.str.1, q⟩
  | le =>
    cases a <;> cases b <;> first | (cases h; done) | skip
    · cases h; exact op_le pins s σ H x y v u Q I rx ry ⟨_, _, sa.int, sb.int, q⟩
    · cases h; exact op_le_str pins s σ H x y v u Q I rx ry ⟨_, _, sa.str.1, sb.str.1, q⟩
  | gt =>
    cases a <;> cases b <;> first | (cases h; done) | skip
    · cases h; exact op_gt pins s σ H x y v u Q I rx ry ⟨_, _, sa.int, sb.int, q⟩
    · cases h; exact op_gt_str pins s σ H x y v u Q I rx ry ⟨_, _, sa.str.1, sb.str.1, q⟩
  | ge =>
    cases a <;> cases b <;> first | (cases h; done) | skip
    · cases h; exact op_ge pins s σ H x y v u Q I rx ry ⟨_, _, sa.int, sb.int, q⟩
    · cases h; exact op_ge_str pins s σ H x y v u Q I rx ry ⟨_, _, sa.str.1, sb.str.1, q⟩
  | is =>
    rcases is_sh (show isC a b = some k from h) sa sb rx ry with ⟨rfl, e⟩ | ⟨c, rfl, e⟩
    · exact is_none_gen (by rw [e]; exact ⟨.bl k, H, I, rfl, q⟩)
    · exact is_bool_gen rx (by rw [e]; exact ⟨.bl k, H, I, rfl, q⟩)
  | isNot =>
    obtain ⟨k', h', rfl⟩ := bindQ h
    rcases is_sh (show isC a b = some k' from h') sa sb rx ry with ⟨rfl, e⟩ | ⟨c, rfl, e⟩
    · exact isnot_none_gen (by rw [e]; exact ⟨.bl _, H, I, rfl, q⟩)
    · exact isnot_bool_gen rx (by rw [e]; exact ⟨.bl _, H, I, rfl, q⟩)
  | in_ => exact opr_in hu I rx ry sa sb (show inQ a M b = some k from h) false fun t => ⟨.bl k, H, I.tok t, rfl, q⟩
  | notIn =>
    obtain ⟨k', h', rfl⟩ := bindQ h
    exact opr_in hu I rx ry sa sb (show inQ a M b = some k' from h') true fun t => ⟨.bl _, H, I.tok t, rfl, q⟩
end
end Ev

set_option maxRecDepth 100000
set_option maxHeartbeats 2000000
/-! Ev4: truth, subscripts, slices, built-in functions, by data. -/
namespace Ev
open PySem PySem.Spec PyProof.Rows L2

theorem slB_eq (n d : Nat) (o : Option Int) : HT.sIx n d o = slB n d o := by
  cases o <;> rfl
theorem ixN_eq (n : Nat) (i : Int) : L2.ixN n i = Ev.ixN n i := by
  unfold L2.ixN Ev.ixN
  split
  · rfl
  · by_cases h : -(n : Int) ≤ i
    · rw [if_pos h, if_pos (by omega)]
    · rw [if_neg h, if_neg (by omega)]
theorem atI_eq {α : Type} (xs : List α) (i : Int) : atI xs i = getIx xs i := by
  unfold atI getIx
  rw [ixN_eq]
theorem cutV_eq (xs : List V) (lo hi : Option Int) : cutV xs lo hi = cut xs lo hi := by
  unfold cutV cut
  rw [slB_eq, slB_eq]
section
variable {K : PySem.W.Frag} {F : Addr → Prop} {as : List Addr} {H : Hp}
theorem Rps.cut {xs : List D} {vs : List V} (h : Rps K F as H xs vs) (lo hi : Option Int) : Rps K F as H (cut xs lo hi) (cut vs lo hi) := by
  unfold Ev.cut
  rw [h.length]
  exact (h.drop _).take _
theorem cut_length {α : Type} (xs : List α) (lo hi : Option Int) : (cut xs lo hi).length ≤ xs.length := by
  unfold cut
  rw [List.length_take, List.length_drop]
  omega
theorem cut_whole {α : Type} {xs : List α} {lo hi : Option Int} (h : slB xs.length 0 lo = 0 ∧ slB xs.length xs.length hi = xs.length) : cut xs lo hi = xs := by
  unfold cut
  rw [h.1, h.2]
  simp
theorem Rps.at {xs : List D} {vs : List V} (h : Rps K F as H xs vs) {i : Int} {d : D} (e : getIx xs i = some d) : ∃ v, atI vs i = some v ∧ Rp K F as H d v := by
  rw [atI_eq]
  unfold getIx at *
  rw [h.length] at e
  cases q : Ev.ixN vs.length i with
  | none => rw [q] at e; cases e
  | some j => rw [q] at e; exact h.get e
theorem mem_cut {α : Type} {xs : List α} {lo hi : Option Int} {c : α} (h : c ∈ cut xs lo hi) : c ∈ xs := by
  unfold cut at h
  exact List.mem_of_mem_drop (List.mem_of_mem_take h)
theorem getIx_mem {α : Type} {xs : List α} {i : Int} {c : α} (h : getIx xs i = some c) : c ∈ xs := by
  unfold getIx at h
  cases q : Ev.ixN xs.length i with
  | none => rw [q] at h; cases h
  | some j => rw [q] at h; exact List.mem_of_getElem? h

/-! ### truth -/
theorem isEmpty_len {α β : Type} {xs : List α} {ys : List β} (h : xs.length = ys.length) : xs.isEmpty = ys.isEmpty := by
  cases xs <;> cases ys <;> simp_all
variable {cls : Nat → Addr} {M : Mem}
theorem tru_sh (m : MemOk K cls as F M H) {d : D} {v : V} {k : Bool} (s : Sh K F as H d v) (h : d.tru M = some k) : TruV K v H k := by
  cases d with
  | non => cases h; rw [s.non]; exact rfl
  | bl b => cases h; rw [s.bl]; exact rfl
  | int i => cases h; rw [s.int]; exact rfl
  | str cs =>
    cases h
    obtain ⟨e, _, z⟩ := s.str
    rw [e]
    refine ⟨by simpa [Str.length] using z, ?_⟩
    cases cs with
    | nil => rfl
    | cons c cs =>
      have e : ((Str.mk (c :: cs).toArray).length : Int) ≠ 0 := by
        simp only [Str.length, List.size_toArray, List.length_cons]
        omega
      show true = (((Str.mk (c :: cs).toArray).length : Int) != 0)
      rw [bne_iff_ne.mpr e]
  | tup xs =>
    cases h
    obtain ⟨a, vs, e, h1, _, r⟩ := s.tup
    rw [e]
    exact .inr (.inl ⟨vs, h1, by rw [isEmpty_len r.length]⟩)
  | lst xs =>
    cases h
    obtain ⟨a, vs, e, h1, _, r⟩ := s.lst
    rw [e]
    exact .inl ⟨vs, h1.sq, by rw [isEmpty_len r.length]⟩
  | obj n =>
    obtain ⟨a, e, h1⟩ := s.obj
    rw [e]
    have h : (match M[n]? with | some (MO.lst xs) => some (!xs.isEmpty) | some (.dic kvs) => some (!kvs.isEmpty) | _ => none) = some k := h
    cases q : M[n]? with
    | none => rw [q] at h; cases h
    | some mo =>
      rw [q] at h
      have ob := m.ob n mo a q h1
      cases mo with
      | lst xs =>
        cases h
        obtain ⟨vs, h2, _, r⟩ := ob
        exact .inl ⟨vs, .inl (.inl h2), by rw [isEmpty_len r.length]⟩
      | dic kvs =>
        cases h
        obtain ⟨vs, h2, _, r⟩ := ob
        exact .inr (.inr ⟨vs, h2, by rw [isEmpty_len (Paired.length r)]⟩)
      | ins C fs => cases h
end

section
variable {X : Cx} {cls : Nat → Addr} {W : XW}
theorem idx_rp {K : PySem.W.Frag} {F : Addr → Prop} {as : List Addr} {H : Hp} {xs : List D} {p : Addr} {vs : List V} {i : Int} {d : D} (r : Rps K F as H xs vs) (h : getIx xs i = some d) : ∃ v, atI vs i = some v ∧ Rp K F as H d v := r.at h
theorem ixr : IxR X (rQ X.K cls W fun _ => idxQ) := by
  intro value slice pins s σ H x y v u Q I rx ry h hs
  obtain ⟨as, F, M, a, b, m, sa, sb, h⟩ := h
  obtain ⟨d, e, h'⟩ := h.lift
  clear h
  cases b with
  | int i =>
    have eb := sb.int
    cases a with
    | lst xs =>
      obtain ⟨p, vs, ep, l, z, r⟩ := sa.lst
      obtain ⟨w, ew, rw'⟩ := r.at (show getIx xs i = some d from e)
      exact ix_list value slice pins s σ H x y v u Q I rx ry ⟨p, vs, i, w, ep, eb, l.sq, ew, h'.now m rw'⟩ hs
    | tup xs =>
      obtain ⟨p, vs, ep, l, z, r⟩ := sa.tup
      obtain ⟨w, ew, rw'⟩ := r.at (show getIx xs i = some d from e)
      exact ix_tup value slice pins s σ H x y v u Q I rx ry ⟨p, vs, i, w, ep, eb, l, ew, h'.now m rw'⟩ hs
    | str cs =>
      obtain ⟨ep, o, z⟩ := sa.str
      have e : (getIx cs i).map (fun c => D.str [c]) = some d := e
      cases q : getIx cs i with
      | none => rw [q] at e; cases e
      | some c =>
        rw [q] at e
        cases e
        refine ix_str value slice pins s σ H x y v u Q I rx ry ⟨_, i, c, ep, eb, by simpa [Str.length] using z, by rw [atI_eq]; simpa using q, ?_⟩ hs
        exact h'.now m (.str (strOkC_of o fun c' hc => by
          rw [List.mem_singleton.mp hc]
          exact getIx_mem q) (by rw [← big_line]; show 1 ≤ big; decide))
    | _ => cases e
  | _ => cases a <;> cases e
/-- a slice, by data -/
def rSlQ (K : PySem.W.Frag) (cls : Nat → Addr) (W : XW) : V → Option Int → Option Int → Hp → VK → Prop := fun x lo hi H Q =>
  ∃ as F M a, MemOk K cls as F M H ∧ Sh K F as H a x ∧ OutG K cls (RP K) W (lift (slcQ lo hi a) M) as F H Q
theorem slr : SlR X (rSlQ X.K cls W) := by
  intro pins s σ H x v vl vu lo hi sl Q I rx hs pl pu h
  obtain ⟨as, F, M, a, m, sa, h⟩ := h
  cases a with
  | lst xs =>
    obtain ⟨p, vs, ep, l, z, r⟩ := sa.lst
    have h : OutG X.K cls (RP X.K) W (.ok (.lst (cut xs lo hi)) M) as F H Q := h
    refine sl_list pins s σ H x v vl vu lo hi sl Q I rx hs pl pu ⟨p, vs, ep, l.sq, ?_⟩
    rw [cutV_eq]
    exact h.newL m (r.cut lo hi) (Nat.le_trans (cut_length _ _ _) z)
  | tup xs =>
    obtain ⟨p, vs, ep, l, z, r⟩ := sa.tup
    have h : OutG X.K cls (RP X.K) W (.ok (.tup (cut xs lo hi)) M) as F H Q := h
    refine sl_tupA pins s σ H x v vl vu lo hi sl Q I rx hs pl pu ⟨p, vs, ep, l, fun hw => ?_, fun hw => ?_⟩
    · rw [slB_eq, slB_eq, ← r.length] at hw
      rw [cut_whole hw] at h
      exact h.now m (.tup l z r)
    · rw [cutV_eq]
      exact h.newT m (r.cut lo hi) (Nat.le_trans (cut_length _ _ _) z)
  | str cs =>
    obtain ⟨ep, o, z⟩ := sa.str
    have h : OutG X.K cls (RP X.K) W (.ok (.str (cut cs lo hi)) M) as F H Q := h
    refine sl_str pins s σ H x v vl vu lo hi sl Q I rx hs pl pu ⟨_, ep, by simpa [Str.length] using z, ?_⟩
    have e : cutS ⟨cs.toArray⟩ lo hi = ⟨(cut cs lo hi).toArray⟩ := by
      show (Str.mk _) = _
      unfold cut
      simp [slB_eq, Str.length]
    rw [e]
    exact h.now m (.str (strOkC_of o fun c hc => mem_cut hc) (Nat.le_trans (cut_length _ _ _) z))
  | non => exact (h : False).elim
  | bl _ => exact (h : False).elim
  | int _ => exact (h : False).elim
  | obj _ => exact (h : False).elim
end
end Ev

set_option maxRecDepth 100000
set_option maxHeartbeats 2000000
/-! Ev5: built-in functions, by data. -/
namespace Ev
open PySem PySem.Spec PyProof.Rows L2

section
variable {K : PySem.W.Frag} {F : Addr → Prop} {as : List Addr} {H : Hp}
theorem Shs.one {d : D} {vs : List V} (h : Shs K F as H [d] vs) : ∃ v, vs = [v] ∧ Sh K F as H d v := by
  cases h with | cons a b => cases b; exact ⟨_, rfl, a⟩
theorem Shs.two {d e : D} {vs : List V} (h : Shs K F as H [d, e] vs) : ∃ v u, vs = [v, u] ∧ Sh K F as H d v ∧ Sh K F as H e u := by
  cases h with | cons a b => cases b with | cons b c => cases c; exact ⟨_, _, rfl, a, b⟩
theorem boolsOf_rps : ∀ {xs : List D} {vs : List V} {bs : List Bool}, Rps K F as H xs vs → boolsOf xs = some bs → vs = bs.map V.bl
  | [], _, _, .nil, h => by cases h; rfl
  | .bl b :: xs, _, _, .cons (.bl _) r, h => by
    have h : (boolsOf xs).map (b :: ·) = some _ := h
    cases q : boolsOf xs with
    | none => rw [q] at h; cases h
    | some cs => rw [q] at h; cases h; rw [boolsOf_rps r q]; rfl
  | .non :: _, _, _, _, h => by cases h
  | .int _ :: _, _, _, _, h => by cases h
  | .str _ :: _, _, _, _, h => by cases h
  | .tup _ :: _, _, _, _, h => by cases h
  | .lst _ :: _, _, _, _, h => by cases h
  | .obj _ :: _, _, _, _, h => by cases h
theorem intsOf_rps : ∀ {xs : List D} {vs : List V} {bs : List Int}, Rps K F as H xs vs → intsOf xs = some bs → vs = bs.map V.int
  | [], _, _, .nil, h => by cases h; rfl
  | .int b :: xs, _, _, .cons (.int _) r, h => by
    have h : (intsOf xs).map (b :: ·) = some _ := h
    cases q : intsOf xs with
    | none => rw [q] at h; cases h
    | some cs => rw [q] at h; cases h; rw [intsOf_rps r q]; rfl
  | .non :: _, _, _, _, h => by cases h
  | .bl _ :: _, _, _, _, h => by cases h
  | .str _ :: _, _, _, _, h => by cases h
  | .tup _ :: _, _, _, _, h => by cases h
  | .lst _ :: _, _, _, _, h => by cases h
  | .obj _ :: _, _, _, _, h => by cases h
def toStr (cs : List Nat) : Str := ⟨cs.toArray⟩
theorem strsOf_rps : ∀ {xs : List D} {vs : List V} {bs : List (List Nat)}, Rps K F as H xs vs → strsOf xs = some bs → vs = (bs.map toStr).map V.str ∧ ∀ c ∈ bs, strOkC c = true ∧ c.length ≤ sizeLine
  | [], _, _, .nil, h => by cases h; exact ⟨rfl, by simp⟩
  | .str b :: xs, _, _, .cons (.str h1 h2) r, h => by
    have h : (strsOf xs).map (b :: ·) = some _ := h
    cases q : strsOf xs with
    | none => rw [q] at h; cases h
    | some cs =>
      rw [q] at h; cases h
      obtain ⟨e, k⟩ := strsOf_rps r q
      rw [e]
      refine ⟨rfl, fun c hc => ?_⟩
      rcases List.mem_cons.mp hc with rfl | hc
      · exact ⟨h1, h2⟩
      · exact k c hc
  | .non :: _, _, _, _, h => by cases h
  | .bl _ :: _, _, _, _, h => by cases h
  | .int _ :: _, _, _, _, h => by cases h
  | .tup _ :: _, _, _, _, h => by cases h
  | .lst _ :: _, _, _, _, h => by cases h
  | .obj _ :: _, _, _, _, h => by cases h
theorem rps_ints : ∀ is : List Int, Rps K F as H (is.map D.int) (is.map V.int)
  | [] => .nil
  | i :: is => .cons (.int i) (rps_ints is)
theorem rps_strs : ∀ {ss : List (List Nat)}, (∀ c ∈ ss, strOkC c = true ∧ c.length ≤ sizeLine) → Rps K F as H (ss.map D.str) ((ss.map toStr).map V.str)
  | [], _ => .nil
  | s :: ss, h => .cons (.str (h s List.mem_cons_self).1 (h s List.mem_cons_self).2) (rps_strs fun c hc => h c (List.mem_cons_of_mem _ hc))
end

/-! ### sorting -/
theorem insSorted_perm {α : Type} (lt : α → α → Bool) (x : α) : ∀ xs : List α, (insSorted lt x xs).Perm (x :: xs)
  | [] => .refl _
  | y :: ys => by
    unfold insSorted
    split
    · exact .refl _
    · exact ((insSorted_perm lt x ys).cons y).trans (.swap x y ys)
theorem isort_perm {α : Type} (lt : α → α → Bool) : ∀ xs : List α, (isort lt xs).Perm xs
  | [] => .refl _
  | x :: xs => (insSorted_perm lt x _).trans ((isort_perm lt xs).cons x)
theorem insSorted_pw {α : Type} {lt : α → α → Bool} {R : α → α → Prop} (h1 : ∀ a b, lt a b = true → R a b) (h2 : ∀ a b, lt a b = false → R b a) (tr : ∀ a b c, R a b → R b c → R a c) (x : α) :
    ∀ {xs : List α}, xs.Pairwise R → (insSorted lt x xs).Pairwise R
  | [], _ => by simp [insSorted]
  | y :: ys, h => by
    obtain ⟨ha, hb⟩ := List.pairwise_cons.mp h
    unfold insSorted
    split
    · rename_i q
      refine List.pairwise_cons.mpr ⟨fun c hc => ?_, h⟩
      rcases List.mem_cons.mp hc with rfl | hc
      · exact h1 _ _ q
      · exact tr _ _ _ (h1 _ _ q) (ha c hc)
    · rename_i q
      refine List.pairwise_cons.mpr ⟨fun c hc => ?_, insSorted_pw h1 h2 tr x hb⟩
      rcases List.mem_cons.mp ((insSorted_perm lt x ys).mem_iff.mp hc) with rfl | hc
      · exact h2 _ _ (by simpa using q)
      · exact ha c hc
theorem isort_pw {α : Type} {lt : α → α → Bool} {R : α → α → Prop} (h1 : ∀ a b, lt a b = true → R a b) (h2 : ∀ a b, lt a b = false → R b a) (tr : ∀ a b c, R a b → R b c → R a c) :
    ∀ xs : List α, (isort lt xs).Pairwise R
  | [] => .nil
  | x :: xs => insSorted_pw h1 h2 tr x (isort_pw h1 h2 tr xs)

section
variable {X : Cx} {cls : Nat → Addr} {W : XW}
/-- a built-in function, by data -/
def rBi (K : PySem.W.Frag) (cls : Nat → Addr) (W : XW) (b : Bi) : List V → Hp → VK → Prop := fun xs H Q =>
  ∃ as F M ds, MemOk K cls as F M H ∧ Shs K F as H ds xs ∧ OutG K cls (RP K) W (lift (biQ M b ds) M) as F H Q
theorem bi1 {b : Bi} {M : Mem} {ds : List D} {r : D} (hb : ∀ d e r, biQ M b (d :: e :: r) = none) (h0 : biQ M b [] = none) (h : biQ M b ds = some r) : ∃ d, ds = [d] := by
  cases ds with
  | nil => rw [h0] at h; cases h
  | cons d ds =>
    cases ds with
    | nil => exact ⟨d, rfl⟩
    | cons e ds => rw [hb] at h; cases h
theorem bi2 {b : Bi} {M : Mem} {ds : List D} {r : D} (h0 : biQ M b [] = none) (h1 : ∀ d, biQ M b [d] = none) (h3 : ∀ d e f r, biQ M b (d :: e :: f :: r) = none) (h : biQ M b ds = some r) : ∃ d e, ds = [d, e] := by
  cases ds with
  | nil => rw [h0] at h; cases h
  | cons d ds =>
    cases ds with
    | nil => rw [h1] at h; cases h
    | cons e ds =>
      cases ds with
      | nil => exact ⟨d, e, rfl⟩
      | cons f ds => rw [h3] at h; cases h
theorem cr_len : CallR X (.builtin "len") (rBi X.K cls W .len) := by
  intro pins s σ H xs us Q I r h
  obtain ⟨as, F, M, ds, m, sh, h⟩ := h
  obtain ⟨d, e, h'⟩ := h.lift
  obtain ⟨d1, rfl⟩ := bi1 (fun d _ _ => by cases d <;> rfl) rfl e
  obtain ⟨x, rfl, sx⟩ := sh.one
  cases d1 with
  | lst ys =>
    cases e
    obtain ⟨p, vs, rfl, l, z, rp⟩ := sx.lst
    exact call_len pins s σ H _ us Q I r ⟨_, _, rfl, .inl ⟨vs, l.sq, rp.length⟩, h'.now m (.int _)⟩
  | tup ys =>
    cases e
    obtain ⟨p, vs, rfl, l, z, rp⟩ := sx.tup
    exact call_len pins s σ H _ us Q I r ⟨_, _, rfl, .inr ⟨vs, l, rp.length⟩, h'.now m (.int _)⟩
  | str cs =>
    cases e
    obtain ⟨rfl, o, z⟩ := sx.str
    exact call_len pins s σ H _ us Q I r ⟨_, cs.length, rfl, ⟨by simpa [Str.length] using z, by simp [Str.length]⟩, h'.now m (.int _)⟩
  | _ => cases e
theorem cr_int : CallR X (.type "int") (rBi X.K cls W .int) := by
  intro pins s σ H xs us Q I r h
  obtain ⟨as, F, M, ds, m, sh, h⟩ := h
  obtain ⟨d, e, h'⟩ := h.lift
  obtain ⟨d1, rfl⟩ := bi1 (fun d _ _ => by cases d <;> rfl) rfl e
  obtain ⟨x, rfl, sx⟩ := sh.one
  cases d1 with
  | int i => cases e; exact call_int1 pins s σ H _ us Q I r (.inl ⟨i, by rw [sx.int], h'.now m (.int _)⟩)
  | bl b => cases e; exact call_int1 pins s σ H _ us Q I r (.inr ⟨b, by rw [sx.bl], h'.now m (.int _)⟩)
  | _ => cases e
theorem cr_tuple : CallR X (.type "tuple") (rBi X.K cls W .tuple) := by
  intro pins s σ H xs us Q I r h
  obtain ⟨as, F, M, ds, m, sh, h⟩ := h
  obtain ⟨d, e, h'⟩ := h.lift
  obtain ⟨d1, rfl⟩ := bi1 (fun d _ _ => by cases d <;> rfl) rfl e
  obtain ⟨x, rfl, sx⟩ := sh.one
  cases d1 with
  | lst ys =>
    cases e
    obtain ⟨p, vs, rfl, l, z, rp⟩ := sx.lst
    exact call_tuple_of pins s σ H _ us Q I r ⟨p, vs, rfl, .inl ⟨l.sq, h'.newT m rp z⟩⟩
  | tup ys =>
    cases e
    obtain ⟨p, vs, rfl, l, z, rp⟩ := sx.tup
    exact call_tuple_of pins s σ H _ us Q I r ⟨p, vs, rfl, .inr ⟨l, h'.now m (.tup l z rp)⟩⟩
  | _ => cases e
theorem cr_list : CallR X (.type "list") (rBi X.K cls W .list) := by
  intro pins s σ H xs us Q I r h
  obtain ⟨as, F, M, ds, m, sh, h⟩ := h
  obtain ⟨d, e, h'⟩ := h.lift
  obtain ⟨d1, rfl⟩ := bi1 (fun d _ _ => by cases d <;> rfl) rfl e
  obtain ⟨x, rfl, sx⟩ := sh.one
  cases d1 with
  | lst ys =>
    cases e
    obtain ⟨p, vs, rfl, l, z, rp⟩ := sx.lst
    exact call_list_of pins s σ H _ us Q I r ⟨p, vs, rfl, .inl l.sq, h'.newL m rp z⟩
  | tup ys =>
    cases e
    obtain ⟨p, vs, rfl, l, z, rp⟩ := sx.tup
    exact call_list_of pins s σ H _ us Q I r ⟨p, vs, rfl, .inr l, h'.newL m rp z⟩
  | _ => cases e
theorem cr_allQ (hc : X.calm = true) : CallR X (.builtin "all") (rBi X.K cls W .all) := by
  intro pins s σ H xs us Q I r h
  obtain ⟨as, F, M, ds, m, sh, h⟩ := h
  obtain ⟨d, e, h'⟩ := h.lift
  obtain ⟨d1, rfl⟩ := bi1 (fun d _ _ => by cases d <;> rfl) rfl e
  obtain ⟨x, rfl, sx⟩ := sh.one
  cases d1 with
  | lst ys =>
    have e : (boolsOf ys).map (fun bs => D.bl (bs.all id)) = some d := e
    cases q : boolsOf ys with
    | none => rw [q] at e; cases e
    | some bs =>
      rw [q] at e; cases e
      obtain ⟨p, vs, rfl, l, z, rp⟩ := sx.lst
      have ev := boolsOf_rps rp q
      subst ev
      exact cr_all hc pins s σ H _ us Q I r ⟨p, bs, rfl, l.sq, h'.now m (.bl _)⟩
  | _ => cases e
theorem cr_anyQ (hc : X.calm = true) : CallR X (.builtin "any") (rBi X.K cls W .any) := by
  intro pins s σ H xs us Q I r h
  obtain ⟨as, F, M, ds, m, sh, h⟩ := h
  obtain ⟨d, e, h'⟩ := h.lift
  obtain ⟨d1, rfl⟩ := bi1 (fun d _ _ => by cases d <;> rfl) rfl e
  obtain ⟨x, rfl, sx⟩ := sh.one
  cases d1 with
  | lst ys =>
    have e : (boolsOf ys).map (fun bs => D.bl (bs.any id)) = some d := e
    cases q : boolsOf ys with
    | none => rw [q] at e; cases e
    | some bs =>
      rw [q] at e; cases e
      obtain ⟨p, vs, rfl, l, z, rp⟩ := sx.lst
      have ev := boolsOf_rps rp q
      subst ev
      exact cr_any hc pins s σ H _ us Q I r ⟨p, bs, rfl, l.sq, h'.now m (.bl _)⟩
  | _ => cases e
theorem cr_sumQ (hc : X.calm = true) : CallR X (.builtin "sum") (rBi X.K cls W .sum) := by
  intro pins s σ H xs us Q I r h
  obtain ⟨as, F, M, ds, m, sh, h⟩ := h
  obtain ⟨d, e, h'⟩ := h.lift
  obtain ⟨d1, rfl⟩ := bi1 (fun d _ _ => by cases d <;> rfl) rfl e
  obtain ⟨x, rfl, sx⟩ := sh.one
  cases d1 with
  | lst ys =>
    have e : (intsOf ys).map (fun bs => D.int bs.sum) = some d := e
    cases q : intsOf ys with
    | none => rw [q] at e; cases e
    | some bs =>
      rw [q] at e; cases e
      obtain ⟨p, vs, rfl, l, z, rp⟩ := sx.lst
      have ev := intsOf_rps rp q
      subst ev
      exact cr_sum hc pins s σ H _ us Q I r ⟨p, bs, rfl, l.sq, h'.now m (.int _)⟩
  | _ => cases e
theorem cr_minQ (hc : X.calm = true) : CallR X (.builtin "min") (rBi X.K cls W .min) := by
  intro pins s σ H xs us Q I r h
  obtain ⟨as, F, M, ds, m, sh, h⟩ := h
  obtain ⟨d, e, h'⟩ := h.lift
  have : ∃ i j, ds = [.int i, .int j] ∧ d = .int (if j < i then j else i) := by
    obtain ⟨a, b, rfl⟩ := bi2 rfl (fun d => by cases d <;> rfl) (fun d e _ _ => by cases d <;> cases e <;> rfl) e
    cases a <;> cases b <;> first | (cases e; done) | (cases e; exact ⟨_, _, rfl, rfl⟩)
  obtain ⟨i, j, rfl, rfl⟩ := this
  obtain ⟨x, y, rfl, sx, sy⟩ := sh.two
  exact call_min2 hc pins s σ H _ us Q I r ⟨i, j, by rw [sx.int, sy.int], h'.now m (.int _)⟩
theorem cr_maxQ (hc : X.calm = true) : CallR X (.builtin "max") (rBi X.K cls W .max) := by
  intro pins s σ H xs us Q I r h
  obtain ⟨as, F, M, ds, m, sh, h⟩ := h
  obtain ⟨d, e, h'⟩ := h.lift
  have : ∃ i j, ds = [.int i, .int j] ∧ d = .int (if i < j then j else i) := by
    obtain ⟨a, b, rfl⟩ := bi2 rfl (fun d => by cases d <;> rfl) (fun d e _ _ => by cases d <;> cases e <;> rfl) e
    cases a <;> cases b <;> first | (cases e; done) | (cases e; exact ⟨_, _, rfl, rfl⟩)
  obtain ⟨i, j, rfl, rfl⟩ := this
  obtain ⟨x, y, rfl, sx, sy⟩ := sh.two
  exact call_max2 hc pins s σ H _ us Q I r ⟨i, j, by rw [sx.int, sy.int], h'.now m (.int _)⟩
theorem risingS_pw : ∀ (l : List Str) (p : Str), PyProof.Rows.risingS p l = true → (p :: l).Pairwise (fun a b : Str => a.cps.toList ≤ b.cps.toList)
  | [], p, _ => by simp
  | x :: r, p, h => by
    have h : (!PySem.Spec.ltCps x.cps.toList p.cps.toList && PyProof.Rows.risingS x r) = true := h
    simp only [Bool.and_eq_true, Bool.not_eq_true'] at h
    have ih := risingS_pw r x h.2
    have hp : p.cps.toList ≤ x.cps.toList := by
      have h1 := h.1
      rw [PyProof.Rows.ltCps_eq] at h1
      exact of_decide_eq_false h1
    refine List.pairwise_cons.mpr ⟨fun c hc => ?_, ih⟩
    rcases List.mem_cons.mp hc with rfl | hc
    · exact hp
    · exact List.le_trans hp ((List.pairwise_cons.mp ih).1 c hc)
theorem sortedS_pw (l : List Str) (h : PyProof.Rows.sortedS l = true) : l.Pairwise (fun a b : Str => a.cps.toList ≤ b.cps.toList) := by
  cases l with
  | nil => exact .nil
  | cons x r => exact risingS_pw r x h
theorem strLe_total (a b : List Nat) (h : ltC a b = false) : ¬ (a < b) := by
  unfold ltC at h
  simpa using h
theorem cr_sortedQ (hc : X.calm = true) : CallR X (.builtin "sorted") (rBi X.K cls W .sorted) := by
  intro pins s σ H xs us Q I r h
  obtain ⟨as, F, M, ds, m, sh, h⟩ := h
  obtain ⟨d, e, h'⟩ := h.lift
  obtain ⟨d1, rfl⟩ := bi1 (fun d _ _ => by cases d <;> rfl) rfl e
  obtain ⟨x, rfl, sx⟩ := sh.one
  cases d1 with
  | lst ys =>
    have e : sortQ ys = some d := e
    unfold sortQ at e
    obtain ⟨p, vs, rfl, l, z, rp⟩ := sx.lst
    split at e
    · cases e
    · rename_i hz
      cases q : intsOf ys with
      | some is =>
        rw [q] at e; cases e
        have ev := intsOf_rps rp q
        subst ev
        have hl : is.length < 64 := by
          have := rp.length
          rw [List.length_map] at this
          omega
        refine cr_sorted pins s σ H _ us Q I r ⟨p, is, rfl, l.sq, hl, fun ns' p' h1 h2 hp => ?_⟩
        have e1 : ns' = isort (fun a b => decide (a < b)) is := by
          refine List.Perm.eq_of_pairwise (le := fun a b => a ≤ b) (fun a b _ _ h1 h2 => Int.le_antisymm h1 h2) h2 ?_ (h1.trans (isort_perm _ is).symm)
          exact isort_pw (R := fun a b : Int => a ≤ b) (fun a b h => by simp at h; omega) (fun a b h => by simp at h; omega) (fun _ _ _ h1 h2 => Int.le_trans h1 h2) is
        rw [e1]
        exact h'.newL m (rps_ints _) (by rw [List.length_map, (isort_perm _ is).length_eq]; exact small64 hl) p' hp
      | none =>
        rw [q] at e
        cases q2 : strsOf ys with
        | none => rw [q2] at e; cases e
        | some ss =>
          rw [q2] at e; cases e
          obtain ⟨ev, ok⟩ := strsOf_rps rp q2
          subst ev
          have hl : ss.length < 64 := by
            have := rp.length
            rw [List.length_map, List.length_map] at this
            omega
          refine cr_sortedS pins s σ H _ us Q I r ⟨p, ss.map toStr, rfl, l.sq, by rw [List.length_map]; exact hl, fun ns' p' h1 h2 hp => ?_⟩
          have e1 : ns' = (isort ltC ss).map toStr := by
            refine List.Perm.eq_of_pairwise (le := fun a b : Str => a.cps.toList ≤ b.cps.toList) (fun a b _ _ h1 h2 => ?_) (sortedS_pw _ h2) ?_ (h1.trans ((isort_perm _ ss).map toStr).symm)
            · have : a.cps.toList = b.cps.toList := List.le_antisymm h1 h2
              cases a; cases b
              simpa using this
            · rw [List.pairwise_map]
              refine List.Pairwise.imp (R := fun a b : List Nat => a ≤ b) (fun h => h) ?_
              refine isort_pw (fun a b h => ?_) (fun a b h => ?_) (fun a b c (h1 : a ≤ b) (h2 : b ≤ c) => (List.le_trans h1 h2 : a ≤ c)) ss
              · unfold ltC at h
                exact List.le_of_lt (of_decide_eq_true h)
              · unfold ltC at h
                exact of_decide_eq_false h
          rw [e1]
          exact h'.newL m (rps_strs fun c hc => ok c ((isort_perm _ ss).mem_iff.mp hc)) (by rw [List.length_map, List.length_map, (isort_perm _ ss).length_eq]; exact small64 hl) p' hp
  | _ => cases e
end
end Ev

set_option maxRecDepth 100000
set_option maxHeartbeats 2000000
/-! Ev6: is this text that syntax? -/
namespace Ev
open PySem PySem.Spec PyProof.Rows L2

/-- the text's names: of defs, of constants -/
structure Txt where
  fn : Nat → Option Str
  ar : Nat → Nat → Bool
  con : Nat → Option Str

def visB (sc : Scope) (x : Str) : Bool := match sc.names.lookup x with
  | some .local => true | some .cell => true | some .free => true | _ => false
def locB (sc : Scope) (x : Str) : Bool := match sc.names.lookup x with
  | some .local => true | some .cell => true | _ => false
def glB (sc : Scope) (x : Str) : Bool := match sc.names.lookup x with
  | some .globalImplicit => true | _ => false
def nameOk (x : Str) : Bool := !(x == ("__debug__" : Str)) && !(x == ("__classdict__" : Str)) && !(x == ("__name__" : Str))
def isStar : Expr → Bool
  | .Starred _ _ => true
  | _ => false
def isSlice : Expr → Bool
  | .Slice _ _ _ _ => true
  | _ => false
def isSetE : Expr → Bool
  | .Set _ _ _ => true
  | _ => false
def opOf : Bop → Operator
  | .add => .Add | .sub => .Sub | .mul => .Mult | .fdiv => .FloorDiv | .mod => .Mod | .pow => .Pow
def biName : Bi → Str
  | .len => "len" | .int => "int" | .tuple => "tuple" | .list => "list" | .all => "all" | .any => "any" | .sorted => "sorted" | .min => "min" | .max => "max" | .sum => "sum"
/-- the type that isinstance asks for -/
def tyName : Ty → String
  | .tuple => "tuple" | .list => "list" | .str => "str" | .int => "int" | .bool => "bool"
def ifsB (nil : Bool) (f : Expr → Bool) : List Expr → Bool
  | [] => nil
  | [y] => !nil && f y
  | _ => false
def bndB (non : Bool) (f : Expr → Bool) : Option Expr → Bool
  | none => non
  | some l => !non && f l
def notNil : List Expr → Bool
  | [] => false
  | _ => true
def varB (N : List Str) (sc : Scope) (i : Nat) : Expr → Bool
  | .Name x _ => decide (N[i]? = some x) && visB sc x && nameOk x
  | _ => false
def borB (N : List Str) (sc : Scope) : E → Expr → Bool
  | .bor i, a => varB N sc i a
  | _, _ => false
def bltB (sc : Scope) (y : Str) : Expr → Bool
  | .Name x _ => x == y && glB sc x && nameOk x
  | _ => false
/-- a target -/
def tgsB (N : List Str) (sc : Scope) : List Nat → List Expr → Bool
  | [], [] => true
  | i :: is, .Name x _ :: xs => decide (N[i]? = some x) && locB sc x && tgsB N sc is xs
  | _, _ => false
def tgB (N : List Str) (sc : Scope) : Tg → Expr → Bool
  | .nm i, .Name x _ => decide (N[i]? = some x) && locB sc x
  | .tp is, .Tuple xs _ _ => tgsB N sc is xs && decide (is.Nodup)
  | _, _ => false
def ownOfVs (N : List Str) : List Nat → List (Str × Nat)
  | [] => []
  | v :: vs => (N.getD v Str.empty, v) :: ownOfVs N vs
def isCallE : Expr → Bool
  | .Call _ _ _ _ => true
  | _ => false
def isTestForm : Expr → Bool
  | .UnaryOp .Not _ _ => true
  | .BoolOp _ _ _ => true
  | .IfExp _ _ _ _ => true
  | .Compare _ _ _ _ => true
  | _ => false
def tgOk : Tg → List Nat → Bool
  | .nm i, vs => vs.contains i
  | .tp is, vs => is.all vs.contains

mutual
def chkE (T : Txt) (N : List Str) (sc : Scope) : E → Expr → Bool
  | .var i, a => varB N sc i a
  | .non, .Constant .none _ _ => true
  | .bl b, .Constant (.bool c) _ _ => b == c
  | .int i, .Constant (.int j) _ _ => i == j
  | .str cs, .Constant (.str x) _ _ => x.cps.toList == cs && strOkC cs && decide (cs.length ≤ big)
  | .glo g, .Name x _ => T.con g == some x && glB sc x && nameOk x
  | .tup es, .Tuple xs _ _ => chkA T N sc es xs
  | .lst es, .List xs _ => chkA T N sc es xs
  | .bin op a b, .BinOp x o y _ => o == opOf op && (borB N sc a x || chkE T N sc a x) && (borB N sc b y || chkE T N sc b y)
  | .cmp op a b, .Compare x [o] [y] _ => o == copOf op && !isSetE y && (borB N sc a x || chkE T N sc a x) && (borB N sc b y || chkE T N sc b y)
  | .cmp2 o1 o2 a b c, .Compare x [p, q] [y, z] _ => p == copOf o1 && q == copOf o2 && !isSetE y && !isSetE z && chkE T N sc a x && chkE T N sc b y && chkE T N sc c z
  | .and es, .BoolOp .And xs _ => chkB T N sc es xs
  | .or es, .BoolOp .Or xs _ => chkB T N sc es xs
  | .not a, .UnaryOp .Not x _ => borB N sc a x || chkE T N sc a x
  | .neg a, .UnaryOp .USub x _ => chkE T N sc a x
  | .ite c a b, .IfExp x y z _ => (borB N sc c x || chkE T N sc c x) && chkE T N sc a y && chkE T N sc b z
  | .idx a i, .Subscript x y _ => !isSlice y && (borB N sc a x || chkE T N sc a x) && chkE T N sc i y
  | .slc a lo hi, .Subscript x (.Slice l h none _) _ => (borB N sc a x || chkE T N sc a x) && bndB lo.isNon (fun l => chkE T N sc lo l) l && bndB hi.isNon (fun l => chkE T N sc hi l) h
  | .call f es, .Call (.Name x _) xs [] _ => T.fn f == some x && T.ar f xs.length && glB sc x && nameOk x && chkA T N sc es xs
  | .bi b es, .Call (.Name x _) xs [] _ => x == biName b && glB sc x && notNil xs && chkO T N sc es xs
  | .isi t e, .Call (.Name x _) [y, z] [] _ => x == ("isinstance" : Str) && glB sc x && bltB sc (tyName t) z && !isStar y && (borB N sc e y || chkE T N sc e y)
  | .bm .index o (.cons e .nil), .Call (.Attribute x m p1) [y] [] p2 => m == ("index" : Str) && (p1.endLine == p2.line) && !isStar y && !isCallE x && (borB N sc o x || chkE T N sc o x) && chkE T N sc e y
  | .comp vs t it c e, .ListComp elt [⟨tg, iter, ifs, 0⟩] scope _ => blkC N sc scope (ownOfVs N vs) && tgOk t vs && decide (vs.Nodup) && chkI T N sc it iter && tgB N scope t tg && ifsB c.isNil (fun y => borB N (relS scope sc) c y || chkE T N (relS scope sc) c y) ifs && chkE T N (relS scope sc) e elt
  | _, _ => false
termination_by structural e => e
/-- arguments -/
def chkA (T : Txt) (N : List Str) (sc : Scope) : E → List Expr → Bool
  | .nil, [] => true
  | .cons e r, x :: xs => !isStar x && chkE T N sc e x && chkA T N sc r xs
  | _, _ => false
termination_by structural e => e
/-- arguments that are only read -/
def chkO (T : Txt) (N : List Str) (sc : Scope) : E → List Expr → Bool
  | .nil, [] => true
  | .cons e r, x :: xs => !isStar x && (borB N sc e x || chkE T N sc e x) && chkO T N sc r xs
  | _, _ => false
termination_by structural e => e
/-- and, or -/
def chkB (T : Txt) (N : List Str) (sc : Scope) : E → List Expr → Bool
  | .cons e r, [x] => r.isNil && chkE T N sc e x
  | .cons e r, x :: y :: xs => !r.isNil && chkE T N sc e x && chkB T N sc r (y :: xs)
  | _, _ => false
termination_by structural e => e
/-- what is walked -/
def chkI (T : Txt) (N : List Str) (sc : Scope) : E → Expr → Bool
  | .itV e, x => !isSetE x && (borB N sc e x || chkE T N sc e x)
  | .itRange es, .Call (.Name x _) xs [] _ => x == ("range" : Str) && glB sc x && (xs.length == 1 || xs.length == 2) && chkO T N sc es xs
  | _, _ => false
termination_by structural e => e
end
end Ev

set_option maxRecDepth 100000
set_option maxHeartbeats 4000000
/-! Ev7: what the evaluator gives of an expression, the model gives. -/
namespace Ev
open PySem PySem.Spec PyProof.Rows L2

theorem _root_.L2.PE.imp {X : Cx} {e : Expr} {t t' : TE} (h : PE X e t) (k : ∀ σ H Q, t' σ H Q → t σ H Q) : PE X e t' := ⟨fun pins s σ H Q I q => h.run pins s σ H Q I (k σ H Q q)⟩
theorem _root_.L2.PT.imp {X : Cx} {e : Expr} {t t' : TT} (h : PT X e t) (k : ∀ σ H Q, t' σ H Q → t σ H Q) : PT X e t' := ⟨fun pins s σ H Q I q => h.run pins s σ H Q I (k σ H Q q)⟩
theorem _root_.L2.PA.imp {X : Cx} {e : List Expr} {t t' : TA} (h : PA X e t) (k : ∀ σ H Q, t' σ H Q → t σ H Q) : PA X e t' := ⟨fun pos pins s σ H Q I q => h.run pos pins s σ H Q I (k σ H Q q)⟩

/-! ### exceptions -/
/-- an error of the package, of class C, as it lies: its own dict at dx -/
def EX (K : PySem.W.Frag) (cls : Nat → Addr) (W : XW) : XK := fun c dd H => ∃ C d M as F dx v, c = .ref (cls C) ∧ dd = some dx ∧ MemOk K cls as F M H ∧ H dx = some (.xd [(xfld C, v)]) ∧ Rp K F as H d v ∧ W C d M as F H
def WX (K : PySem.W.Frag) (cls : Nat → Addr) (E : XK) : XW := fun C d M as F H => ∀ dx v, H dx = some (.xd [(xfld C, v)]) → Rp K F as H d v → E (.ref (cls C)) (some dx) H
abbrev W0 : XW := fun _ _ _ _ _ _ => False

/-- a def's promise: it gives what the evaluator's call gives -/
def spD (K : PySem.W.Frag) (cls : Nat → Addr) (call : Nat → List D → Mem → Res D) (f n : Nat) : Sp := fun vs H Q E =>
  ∃ as F M ds, vs.length = n ∧ Rps K F as H ds vs ∧ MemOk K cls as F M H ∧ OutG K cls (RP K) (WX K cls E) (call f ds M) as F H Q

def bltNames : List Str := ["len", "int", "tuple", "list", "all", "any", "sorted", "min", "max", "sum", "isinstance", "range", "enumerate", "zip", "reversed", "str", "bool", "set", "dict"]
structure Good (X : Cx) (cls : Nat → Addr) (T : Txt) (C : Ctx) (k : Nat) (W : L2.St → XW) : Prop where
  nd : X.N.Nodup
  calm : X.calm = true
  room : Room k X.A
  free : ∀ x ∈ bltNames, X.mg x = none
  con : ∀ g x d, T.con g = some x → C.con g = some d → ∃ u v, X.mg x = some u ∧ RelV v u ∧ ∀ F as H, Rp X.K F as H d v
  fn : ∀ f x, T.fn f = some x → ∃ fa fd ps, X.mg x = some (.ref fa) ∧ PySem.W.keepIn X.K (.ref fa) = true ∧ FnOk X.prog X.w X.K X.mg X.base (L2.CX X.prog X.w) k fa fd ps (spD X.K cls C.call f ps.length) ∧
    ∀ n, T.ar f n = true → ∃ ds dvs dd, Binds X.K fd ps ds ∧ Vals dvs ds ∧ n + dvs.length = ps.length ∧ (∀ F as H, Rps X.K F as H dd dvs) ∧ ∀ args M, args.length = n → C.call f args M = C.call f (args ++ dd) M
  pass : ∀ σ, PassesAt (L2.CX X.prog X.w) X σ (EX X.K cls (W σ))

section
variable {α β γ δ : Type} {K : PySem.W.Frag} {cls : Nat → Addr} {as0 : List Addr} {F0 : Addr → Prop} {H0 : Hp} {W : L2.St → XW}
/-- the reading of an evaluation -/
def rd (K : PySem.W.Frag) (cls : Nat → Addr) (as0 : List Addr) (F0 : Addr → Prop) (H0 : Hp) (W : L2.St → XW) (R : List Addr → (Addr → Prop) → Hp → α → β → Prop) (f : Ev.Env → Mem → Res α) :
    L2.St → Hp → (β → Hp → Prop) → Prop := fun σ H Q => ∃ as F M ρ, BI K cls as0 F0 H0 as F M ρ σ H ∧ OutG K cls R (W σ) (f ρ M) as F H Q
/-- a value that has come, and what follows with it -/
def rdV (K : PySem.W.Frag) (cls : Nat → Addr) (as0 : List Addr) (F0 : Addr → Prop) (H0 : Hp) (W : L2.St → XW) (R : List Addr → (Addr → Prop) → Hp → α → β → Prop) (R2' : List Addr → (Addr → Prop) → Hp → γ → δ → Prop)
    (g : α → Ev.Env → Mem → Res γ) (σ : L2.St) (v : β) (H : Hp) (Q : δ → Hp → Prop) : Prop := ∃ as F M ρ d, BI K cls as0 F0 H0 as F M ρ σ H ∧ R as F H d v ∧ OutG K cls R2' (W σ) (g d ρ M) as F H Q
variable {R : List Addr → (Addr → Prop) → Hp → α → β → Prop} {R2' : List Addr → (Addr → Prop) → Hp → γ → δ → Prop} {σ : L2.St} {H : Hp}
theorem rd.bind {f : Ev.Env → Mem → Res α} {g : α → Ev.Env → Mem → Res γ} {Q : δ → Hp → Prop} (h : rd K cls as0 F0 H0 W R2' (fun ρ M => (f ρ M).bind fun d M => g d ρ M) σ H Q) :
    rd K cls as0 F0 H0 W R f σ H (fun v H1 => rdV K cls as0 F0 H0 W R R2' g σ v H1 Q) := by
  obtain ⟨as, F, M, ρ, bi, h⟩ := h
  refine ⟨as, F, M, ρ, bi, (OutG.bind (R := R) h).imp fun v H1 ⟨as1, F1, M1, d, s1, m1, r1, h1⟩ => ?_⟩
  exact ⟨as1, F1, M1, ρ, d, bi.step s1 m1, r1, h1⟩
theorem rd.imp {f : Ev.Env → Mem → Res α} {Q Q' : β → Hp → Prop} (h : rd K cls as0 F0 H0 W R f σ H Q) (k : ∀ v H', Q v H' → Q' v H') : rd K cls as0 F0 H0 W R f σ H Q' := by
  obtain ⟨as, F, M, ρ, bi, h⟩ := h
  exact ⟨as, F, M, ρ, bi, h.imp k⟩
/-- from a value on -/
theorem rdV.go {g : α → Ev.Env → Mem → Res γ} {v : β} {Q : δ → Hp → Prop} (h : rdV K cls as0 F0 H0 W R R2' g σ v H Q) : ∃ as F M ρ d, MemOk K cls as F M H ∧ R as F H d v ∧ OutG K cls R2' (W σ) (g d ρ M) as F H Q := by
  obtain ⟨as, F, M, ρ, d, bi, r, h⟩ := h
  exact ⟨as, F, M, ρ, d, bi.mem, r, h⟩
end

section
variable {X : Cx} {cls : Nat → Addr} {T : Txt} {C : Ctx} {k : Nat} {W : L2.St → XW} {as0 : List Addr} {F0 : Addr → Prop} {H0 : Hp}
theorem vis_of {sc : Scope} {x : Str} (h : visB sc x = true) : Vis sc x := by
  unfold visB at h
  unfold Vis
  split at h <;> first | exact .inl (by assumption) | exact .inr (.inl (by assumption)) | exact .inr (.inr (by assumption)) | cases h
theorem loc_of {sc : Scope} {x : Str} (h : locB sc x = true) : L2.Loc sc x := by
  unfold locB at h
  unfold L2.Loc
  split at h <;> first | exact .inl (by assumption) | exact .inr (by assumption) | cases h
theorem gl_of {x : Str} (h : glB X.env.scope x = true) : Gl X x := by
  unfold glB at h
  split at h <;> first | assumption | cases h
theorem nameOk_of {x : Str} (h : nameOk x = true) : (x == ("__debug__" : Str)) = false ∧ (x == ("__classdict__" : Str)) = false ∧ x ≠ ("__name__" : Str) := by
  unfold nameOk at h
  simp only [Bool.and_eq_true, Bool.not_eq_true'] at h
  exact ⟨h.1.1, h.1.2, by simpa using h.2⟩
theorem starEach_ne {e : Expr} {es : List Expr} {env : PySem.Env} (h : isStar e = false) : starEach (e :: es) env = (false, eval e env) :: starEach es env := by
  cases e <;> first | rfl | cases h
theorem pl_cons {e : Expr} {es : List Expr} {env : PySem.Env} {pos : Pos} (h : isStar e = false) (r : (backTo pos (starEach es env)).any (·.1) = false) : (backTo pos (starEach (e :: es) env)).any (·.1) = false := by
  rw [starEach_ne h]
  show (false || (backTo pos (starEach es env)).any (·.1)) = false
  rw [r]; rfl
theorem plain_sub {y : Expr} (h : isSlice y = false) : PlainIx y := by
  intro o i
  cases y <;> first | rfl | cases h
theorem mark_of {y : Expr} {op : CmpOp} (h : isSetE y = false) : behindInMarks op y = false := by
  cases y <;> first | rfl | cases h
theorem RP.rs {as : List Addr} {F : Addr → Prop} {H : Hp} {d : D} {v : V} (h : RP X.K as F H d v) : RS X.K as F H d v := .rp h
theorem rd.weak {f : Ev.Env → Mem → Res D} {σ : L2.St} {H : Hp} {Q : VK} (h : rd X.K cls as0 F0 H0 W (RS X.K) f σ H Q) : rd X.K cls as0 F0 H0 W (RP X.K) f σ H Q := by
  obtain ⟨as, F, M, ρ, bi, h⟩ := h
  refine ⟨as, F, M, ρ, bi, ?_⟩
  cases q : f ρ M with
  | ok d M' => rw [q] at h; exact fun as' F' v H' s m r => h as' F' v H' s m (.rp r)
  | exc C d M' => rw [q] at h; exact h
  | bad => rw [q] at h; exact h

/-- a name -/
theorem snd_var {i : Nat} {a : Expr} (h : varB X.N X.env.scope i a = true) : PE X a (rd X.K cls as0 F0 H0 W (RP X.K) (ev C (.var i))) := by
  cases a with
  | Name x p =>
    simp only [varB, Bool.and_eq_true, decide_eq_true_eq] at h
    obtain ⟨⟨h1, h2⟩, h3⟩ := h
    obtain ⟨n1, n2, _⟩ := nameOk_of h3
    refine (pe_var h1 (vis_of h2) n1 n2).imp fun σ H Q ⟨as, F, M, ρ, bi, q⟩ => ?_
    have q : OutG X.K cls (RP X.K) (W σ) (match ρ[i]? with | some (.val d) => .ok d M | _ => .bad) as F H Q := q
    split at q
    · rename_i d e
      obtain ⟨v, e1, r⟩ := bi.slo.val i d e
      exact ⟨v, e1, q.now bi.mem r⟩
    · exact q.elim
  | _ => cases h
/-- a list of a name's own, to be read -/
theorem snd_bor {e : E} {a : Expr} (h : borB X.N X.env.scope e a = true) : PE X a (rd X.K cls as0 F0 H0 W (RS X.K) (ev C e)) := by
  cases e with
  | bor i =>
    have h : varB X.N X.env.scope i a = true := h
    cases a with
    | Name x p =>
      simp only [varB, Bool.and_eq_true, decide_eq_true_eq] at h
      obtain ⟨⟨h1, h2⟩, h3⟩ := h
      obtain ⟨n1, n2, _⟩ := nameOk_of h3
      refine (pe_var h1 (vis_of h2) n1 n2).imp fun σ H Q ⟨as, F, M, ρ, bi, q⟩ => ?_
      have q : OutG X.K cls (RS X.K) (W σ) (match ρ[i]? with | some (.own xs) => .ok (.lst xs) M | _ => .bad) as F H Q := q
      split at q
      · rename_i d e
        obtain ⟨p, vs, e1, o, r⟩ := bi.slo.own i d e
        exact ⟨_, e1, q.now bi.mem (.own o.at_ o.na o.len r)⟩
      · exact q.elim
    | _ => cases h
  | _ => cases h
theorem snd_o {e : E} {a : Expr} (h : (borB X.N X.env.scope e a || chkE T X.N X.env.scope e a) = true) (k : chkE T X.N X.env.scope e a = true → PE X a (rd X.K cls as0 F0 H0 W (RP X.K) (ev C e))) :
    PE X a (rd X.K cls as0 F0 H0 W (RS X.K) (ev C e)) := by
  rcases Bool.or_eq_true_iff.mp h with h | h
  · exact snd_bor h
  · exact (k h).imp fun σ H Q q => q.weak
end
end Ev

set_option maxRecDepth 100000
set_option maxHeartbeats 4000000
namespace Ev
open PySem PySem.Spec PyProof.Rows L2

section
variable {α β γ δ : Type} {K : PySem.W.Frag} {cls : Nat → Addr} {as0 : List Addr} {F0 : Addr → Prop} {H0 : Hp} {W : L2.St → XW}
variable {R : List Addr → (Addr → Prop) → Hp → α → β → Prop} {R2' : List Addr → (Addr → Prop) → Hp → γ → δ → Prop} {σ : L2.St} {H : Hp} {as : List Addr} {F : Addr → Prop} {M : Mem}
theorem OutG.liftW {W W' : XW} {o : Option α} {Q : β → Hp → Prop} (h : OutG K cls R W (Ev.lift o M) as F H Q) : OutG K cls R W' (Ev.lift o M) as F H Q := by
  cases o with
  | none => exact h
  | some a => exact h
theorem OutG.okW {W W' : XW} {a : α} {Q : β → Hp → Prop} (h : OutG K cls R W (.ok a M) as F H Q) : OutG K cls R W' (.ok a M) as F H Q := h
theorem rd.bind2 {f g : Ev.Env → Mem → Res D} {h : D → D → Mem → Res γ} {Q : δ → Hp → Prop}
    (q : rd K cls as0 F0 H0 W R2' (fun ρ M => (f ρ M).bind fun x M => (g ρ M).bind fun y M => h x y M) σ H Q) :
    rd K cls as0 F0 H0 W (RS K) f σ H (fun x H1 => rd K cls as0 F0 H0 W (RS K) g σ H1 (fun y H2 =>
      ∃ as F M a b, MemOk K cls as F M H2 ∧ Sh K F as H2 a x ∧ Sh K F as H2 b y ∧ OutG K cls R2' (W σ) (h a b M) as F H2 Q)) := by
  refine (rd.bind (R := RS K) (g := fun x ρ M => (g ρ M).bind fun y M => h x y M) q).imp fun x H1 ⟨as, F, M, ρ, d, bi, r, h1⟩ => ?_
  exact ⟨as, F, M, ρ, bi, (OutG.bind (R := RS K) h1).imp fun y H2 ⟨as2, F2, M2, d2, s2, m2, r2, h2⟩ => ⟨as2, F2, M2, d, d2, m2, r.step s2, r2, h2⟩⟩
theorem rd.bind1 {f : Ev.Env → Mem → Res α} {h : α → Mem → Res γ} {Q : δ → Hp → Prop}
    (q : rd K cls as0 F0 H0 W R2' (fun ρ M => (f ρ M).bind h) σ H Q) :
    rd K cls as0 F0 H0 W R f σ H (fun x H1 => ∃ as F M a, MemOk K cls as F M H1 ∧ R as F H1 a x ∧ OutG K cls R2' (W σ) (h a M) as F H1 Q) := by
  refine (rd.bind (R := R) (g := fun x ρ M => h x M) q).imp fun x H1 ⟨as, F, M, ρ, d, bi, r, h1⟩ => ?_
  exact ⟨as, F, M, d, bi.mem, r, h1⟩
end

theorem isTrue_plainE {a : Expr} {env : PySem.Env} (h : isTestForm a = false) : ∀ whole, isTrue a env whole = (do let v ← whole; standAt a.pos; holding [v] (truthy v)) := by
  intro whole
  cases a <;> first | rfl | (cases h; done) | skip
  rename_i op _ _
  cases op <;> first | rfl | cases h

section
variable {cls : Nat → Addr} {T : Txt} {C : Ctx} {k : Nat} {as0 : List Addr} {F0 : Addr → Prop} {H0 : Hp}

/-- truth of a value that has come -/
theorem pt_of {X : Cx} {W : L2.St → XW} {a : Expr} {e : E} (h : PE X a (rd X.K cls as0 F0 H0 W (RS X.K) (ev C e))) (he : isTestForm a = false) :
    PT X a (rd X.K cls as0 F0 H0 W RB (tst false (ev C e))) := by
  refine (pt_truth h (isTrue_plainE he)).imp fun σ H Q q => ?_
  have q : rd X.K cls as0 F0 H0 W RB (fun ρ M => (ev C e ρ M).bind fun x M => lift (x.tru M) M) σ H Q := q
  refine (rd.bind1 (R := RS X.K) q).imp fun x H1 ⟨as, F, M, a, m, r, h1⟩ => ?_
  obtain ⟨k, e, h2⟩ := h1.lift
  exact ⟨k, tru_sh m r e, h2.now m rfl⟩
theorem lastMarks_of {y z : Expr} {p q : CmpOp} (h1 : isSetE y = false) (h2 : isSetE z = false) : lastMarks [p, q] [y, z] = false := by
  show behindInMarks q z = false
  exact mark_of h2
theorem bi_free {X : Cx} {W : L2.St → XW} (G : Good X cls T C k W) (b : Bi) : X.mg (biName b) = none := by
  refine G.free _ ?_
  unfold bltNames biName
  cases b <;> simp
theorem isi_kit {K : PySem.W.Frag} {F : Addr → Prop} {as : List Addr} {H : Hp} {ty : Ty} {d : D} {r : Bool} {x : V} (h : isiQ ty d = some r) (s : Sh K F as H d x) :
    ∃ t, TyX K H x t ∧ PySem.W.kitOne K t (.type (tyName ty)) = some r := by
  have lstT : ∀ {xs : List D}, Sh K F as H (.lst xs) x → TyX K H x (.type "list") := fun {xs} s => by
    obtain ⟨a, vs, rfl, l, _, _⟩ := s.lst
    rcases l with l | ⟨o, l⟩ | ⟨its, n, l, _, _⟩
    · exact .base (.lst l)
    · exact .base (.frz l)
    · exact .kList l rfl
  have tupT : ∀ {xs : List D}, Sh K F as H (.tup xs) x → TyX K H x (.type "tuple") := fun {xs} s => by
    obtain ⟨a, vs, rfl, l, _, _⟩ := s.tup
    rcases l with (l | ⟨o, l⟩) | ⟨o, its, n, l, c, _, _, _⟩
    · exact .base (.tup l)
    · exact .fTuple l
    · exact .kTuple l c
  cases ty <;> cases d <;> first
    | (cases h; done)
    | (cases h; rw [s.non]; exact ⟨_, .base .non, kit_ty (by decide +kernel)⟩)
    | (cases h; rw [s.bl]; exact ⟨_, .base (.bl _), kit_ty (by decide +kernel)⟩)
    | (cases h; rw [s.int]; exact ⟨_, .base (.int _), kit_ty (by decide +kernel)⟩)
    | (cases h; rw [s.str.1]; exact ⟨_, .base (.str _), kit_ty (by decide +kernel)⟩)
    | (cases h; exact ⟨_, tupT s, kit_ty (by decide +kernel)⟩)
    | (cases h; exact ⟨_, lstT s, kit_ty (by decide +kernel)⟩)
theorem pe_tyname {X : Cx} {W : L2.St → XW} (G : Good X cls T C k W) {ty : Str} {z : Expr} {s : String} (hz : bltB X.env.scope ty z = true) (hn : ty ∈ bltNames) (hv : bootBuiltins ty = some (.type s)) : PE X z (tC (.ty s)) := by
  cases z with
  | Name x p =>
    simp only [bltB, Bool.and_eq_true, beq_iff_eq] at hz
    obtain ⟨⟨rfl, h1⟩, h2⟩ := hz
    obtain ⟨n1, n2, n3⟩ := nameOk_of h2
    exact pe_bltn (gl_of h1) (G.free _ hn) hv rfl n3 n1
  | _ => cases hz
theorem pe_tynameB {X : Cx} {W : L2.St → XW} (G : Good X cls T C k W) {ty : Ty} {z : Expr} (hz : bltB X.env.scope (tyName ty) z = true) : PE X z (tC (.ty (tyName ty))) := by
  cases ty <;> exact pe_tyname G hz (by unfold bltNames tyName; simp) (by decide +kernel)
/-- a built-in function's call -/
theorem snd_bi {X : Cx} {W : L2.St → XW} (G : Good X cls T C k W) {b : Bi} {es : E} {y : Expr} {ys : List Expr} {p pos : Pos} (hg : glB X.env.scope (biName b) = true)
    (ha : PA X (y :: ys) (rd X.K cls as0 F0 H0 W (RSs X.K) (evs C es))) (hy : isStar y = false) (hpl : ∀ pos, (backTo pos (starEach ys X.env)).any (·.1) = false) :
    PE X (.Call (.Name (biName b) p) (y :: ys) [] pos) (rd X.K cls as0 F0 H0 W (RP X.K) (ev C (.bi b es))) := by
  have key : ∀ {r : List V → Hp → VK → Prop} , PE X (.Call (.Name (biName b) p) (y :: ys) [] pos) (tCB (rBi X.K cls W0 b) (rd X.K cls as0 F0 H0 W (RSs X.K) (evs C es))) →
      PE X (.Call (.Name (biName b) p) (y :: ys) [] pos) (rd X.K cls as0 F0 H0 W (RP X.K) (ev C (.bi b es))) := fun {r} h => h.imp fun σ H Q q => by
    have q : rd X.K cls as0 F0 H0 W (RP X.K) (fun ρ M => (evs C es ρ M).bind fun ds M => lift (biQ M b ds) M) σ H Q := q
    refine (rd.bind1 (R := RSs X.K) q).imp fun x H1 ⟨as, F, M, ds, m, r, h1⟩ => ?_
    exact ⟨as, F, M, ds, m, r, h1.liftW⟩
  have g : Gl X (biName b) := gl_of hg
  have m := bi_free G b
  have hc := G.calm
  refine key (r := fun _ _ _ => True) ?_
  cases b <;> first
    | exact pe_callB cr_len g m (by decide +kernel) ha (by decide) (by decide) (starEach_ne hy) (hpl _)
    | exact pe_callTy cr_int g m (by decide +kernel) ha (by decide) (by decide) (starEach_ne hy) (hpl _)
    | exact pe_callTy cr_tuple g m (by decide +kernel) ha (by decide) (by decide) (starEach_ne hy) (hpl _)
    | exact pe_callTy cr_list g m (by decide +kernel) ha (by decide) (by decide) (starEach_ne hy) (hpl _)
    | exact pe_callB (cr_allQ hc) g m (by decide +kernel) ha (by decide) (by decide) (starEach_ne hy) (hpl _)
    | exact pe_callB (cr_anyQ hc) g m (by decide +kernel) ha (by decide) (by decide) (starEach_ne hy) (hpl _)
    | exact pe_callB (cr_sortedQ hc) g m (by decide +kernel) ha (by decide) (by decide) (starEach_ne hy) (hpl _)
    | exact pe_callB (cr_minQ hc) g m (by decide +kernel) ha (by decide) (by decide) (starEach_ne hy) (hpl _)
    | exact pe_callB (cr_maxQ hc) g m (by decide +kernel) ha (by decide) (by decide) (starEach_ne hy) (hpl _)
    | exact pe_callB (cr_sumQ hc) g m (by decide +kernel) ha (by decide) (by decide) (starEach_ne hy) (hpl _)
/-- isinstance -/
theorem snd_isi {X : Cx} {W : L2.St → XW} (G : Good X cls T C k W) {ty : Ty} {e : E} {y z : Expr} {p pos : Pos} (hg : glB X.env.scope ("isinstance" : Str) = true)
    (ha : PE X y (rd X.K cls as0 F0 H0 W (RS X.K) (ev C e))) (hy : isStar y = false) (hz : bltB X.env.scope (tyName ty) z = true) :
    PE X (.Call (.Name ("isinstance" : Str) p) [y, z] [] pos) (rd X.K cls as0 F0 H0 W (RP X.K) (ev C (.isi ty e))) := by
  have zs : isStar z = false := by cases z <;> first | rfl | cases hz
  have g : Gl X ("isinstance" : Str) := gl_of hg
  have m : X.mg ("isinstance" : Str) = none := G.free _ (by unfold bltNames; simp)
  have pl : ∀ pos, (backTo pos (starEach [z] X.env)).any (·.1) = false := fun pos => pl_cons zs rfl
  refine (pe_callB call_isi g m (by decide +kernel) (pa_cons ha (pa_cons (pe_tynameB G hz) pa_nil (starEach_ne zs)) (starEach_ne hy)) (by decide) (by decide) (starEach_ne hy) (pl _)).imp fun σ H Q q => ?_
  refine (rd.bind1 (R := RS X.K) (f := ev C e) (h := fun x M => (lift (isiQ ty x) M).bind fun k M => .ok (D.bl k) M) q).imp fun x H1 ⟨as1, F1, M1, d, m1, r1, h1⟩ => ?_
  obtain ⟨r, e1, h2⟩ := h1.lift_bind
  obtain ⟨t, hk, hk2⟩ := isi_kit e1 r1
  exact ⟨x, .ty (tyName ty), t, .type (tyName ty), r, rfl, .ty _, hk, hk2, OutG.now (a := D.bl r) (M := M1) h2 m1 (.bl _)⟩
end
end Ev

set_option maxRecDepth 100000
set_option maxHeartbeats 4000000
/-! Ev9: calls of defs; what is walked; comprehensions. -/
namespace Ev
open PySem PySem.Spec PyProof.Rows L2

section
variable {cls : Nat → Addr} {T : Txt} {C : Ctx} {k : Nat} {as0 : List Addr} {F0 : Addr → Prop} {H0 : Hp}

/-! ### calls -/
theorem chkA_len {C : Ctx} {T : Txt} {N : List Str} {sc : Scope} : ∀ (e : E) {xs : List Expr}, chkA T N sc e xs = true → ∀ {ρ : Ev.Env} {M : Mem} {ds : List D} {M' : Mem}, evs C e ρ M = .ok ds M' → ds.length = xs.length
  | .nil, xs, h, ρ, M, ds, M', q => by
    cases xs with
    | nil => cases q; rfl
    | cons x xs => simp [chkA] at h
  | .cons e r, xs, h, ρ, M, ds, M', q => by
    cases xs with
    | nil => simp [chkA] at h
    | cons x xs =>
      simp only [chkA, Bool.and_eq_true] at h
      have q : ((ev C e ρ M).bind fun x M => (evs C r ρ M).bind fun xs M => .ok (x :: xs) M) = .ok ds M' := q
      cases e1 : ev C e ρ M with
      | ok d M1 =>
        rw [e1] at q
        cases e2 : evs C r ρ M1 with
        | ok ds2 M2 =>
          simp only [Res.bind, e2] at q
          cases q
          simp [chkA_len r h.2 e2]
        | exc c d M' => simp only [Res.bind, e2] at q; cases q
        | bad => simp only [Res.bind, e2] at q; cases q
      | exc c d M' => rw [e1] at q; cases q
      | bad => rw [e1] at q; cases q
  | .star _ _, xs, h, _, _, _, _, _ => by simp [chkA] at h
  | .var _, xs, h, _, _, _, _, _ => by simp [chkA] at h
  | .bor _, xs, h, _, _, _, _, _ => by simp [chkA] at h
  | .non, xs, h, _, _, _, _, _ => by simp [chkA] at h
  | .bl _, xs, h, _, _, _, _, _ => by simp [chkA] at h
  | .int _, xs, h, _, _, _, _, _ => by simp [chkA] at h
  | .str _, xs, h, _, _, _, _, _ => by simp [chkA] at h
  | .glo _, xs, h, _, _, _, _, _ => by simp [chkA] at h
  | .tup _, xs, h, _, _, _, _, _ => by simp [chkA] at h
  | .lst _, xs, h, _, _, _, _, _ => by simp [chkA] at h
  | .bin _ _ _, xs, h, _, _, _, _, _ => by simp [chkA] at h
  | .cmp _ _ _, xs, h, _, _, _, _, _ => by simp [chkA] at h
  | .cmp2 _ _ _ _ _, xs, h, _, _, _, _, _ => by simp [chkA] at h
  | .and _, xs, h, _, _, _, _, _ => by simp [chkA] at h
  | .or _, xs, h, _, _, _, _, _ => by simp [chkA] at h
  | .not _, xs, h, _, _, _, _, _ => by simp [chkA] at h
  | .neg _, xs, h, _, _, _, _, _ => by simp [chkA] at h
  | .ite _ _ _, xs, h, _, _, _, _, _ => by simp [chkA] at h
  | .idx _ _, xs, h, _, _, _, _, _ => by simp [chkA] at h
  | .slc _ _ _, xs, h, _, _, _, _, _ => by simp [chkA] at h
  | .call _ _, xs, h, _, _, _, _, _ => by simp [chkA] at h
  | .bi _ _, xs, h, _, _, _, _, _ => by simp [chkA] at h
  | .isi _ _, xs, h, _, _, _, _, _ => by simp [chkA] at h
  | .bm _ _ _, xs, h, _, _, _, _, _ => by simp [chkA] at h
  | .comp _ _ _ _ _, xs, h, _, _, _, _, _ => by simp [chkA] at h
  | .comp2 _ _ _ _ _ _ _ _ _, xs, h, _, _, _, _, _ => by simp [chkA] at h
  | .itV _, xs, h, _, _, _, _, _ => by simp [chkA] at h
  | .itRange _, xs, h, _, _, _, _, _ => by simp [chkA] at h
  | .itEnum _, xs, h, _, _, _, _, _ => by simp [chkA] at h
  | .itZip _ _, xs, h, _, _, _, _, _ => by simp [chkA] at h
  | .itRev _, xs, h, _, _, _, _, _ => by simp [chkA] at h

theorem OutG.bindE {α β γ δ : Type} {K : PySem.W.Frag} {R : List Addr → (Addr → Prop) → Hp → α → β → Prop} {R2' : List Addr → (Addr → Prop) → Hp → γ → δ → Prop} {W : XW}
    {as : List Addr} {F : Addr → Prop} {H : Hp} {r : Res α} {f : α → Mem → Res γ} {Q : δ → Hp → Prop} (h : OutG K cls R2' W (r.bind f) as F H Q) :
    OutG K cls R W r as F H (fun v H1 => ∃ as1 F1 M1 d, r = .ok d M1 ∧ Stp as F H as1 F1 H1 ∧ MemOk K cls as1 F1 M1 H1 ∧ R as1 F1 H1 d v ∧ OutG K cls R2' W (f d M1) as1 F1 H1 Q) := by
  cases r with
  | ok d M' => exact fun as1 F1 v H1 s1 m1 r1 => ⟨as1, F1, M', d, rfl, s1, m1, r1, h.from s1⟩
  | exc C d M' => exact h
  | bad => exact h
theorem OutG.toX {K : PySem.W.Frag} {W : XW} {r : Res D} {as : List Addr} {F : Addr → Prop} {H : Hp} {Q : VK} (h : OutG K cls (RP K) W r as F H Q) : OutG K cls (RP K) (WX K cls (EX K cls W)) r as F H Q := by
  cases r with
  | ok d M' => exact h
  | exc c d M' => exact fun as' F' H' s m dx v hd r => ⟨c, d, M', as', F', dx, v, rfl, rfl, m, hd, r, h as' F' H' s m⟩
  | bad => exact h
/-- f(..) -/
theorem snd_call {X : Cx} {W : L2.St → XW} (G : Good X cls T C k W) {f : Nat} {es : E} {x : Str} {xs : List Expr} {p pos : Pos} (hf : T.fn f = some x) (hr : T.ar f xs.length = true) (hg : glB X.env.scope x = true) (hn : nameOk x = true)
    (hc : chkA T X.N X.env.scope es xs = true) (ha : PA X xs (rd X.K cls as0 F0 H0 W (RPs X.K) (evs C es))) (hpl : ∀ pos, (backTo pos (starEach xs X.env)).any (·.1) = false) :
    PE X (.Call (.Name x p) xs [] pos) (rd X.K cls as0 F0 H0 W (RP X.K) (ev C (.call f es))) := by
  obtain ⟨fa, fd, ps, hm, hk, F, dflt⟩ := G.fn f x hf
  obtain ⟨ds, dvs, dd, hb, hd, hl, hdd, heq⟩ := dflt _ hr
  obtain ⟨n1, n2, n3⟩ := nameOk_of hn
  have core : ∀ {σ : L2.St} {H1 : Hp} {Q : VK} {vs : List V}, (∃ as F M a, evs C es = evs C es ∧ a.length = xs.length ∧ MemOk X.K cls as F M H1 ∧ Rps X.K F as H1 a vs ∧ OutG X.K cls (RP X.K) (W σ) (C.call f a M) as F H1 Q) →
      spD X.K cls C.call f ps.length (vs ++ dvs) H1 Q (EX X.K cls (W σ)) := by
    rintro σ H1 Q vs ⟨as, F', M, a, _, la, m, r, h⟩
    rw [heq a M la] at h
    have e := r.length
    exact ⟨as, F', M, a ++ dd, by rw [List.length_append]; omega, r.append (hdd _ _ _), m, h.toX⟩
  have red : ∀ {σ : L2.St} {H : Hp} {Q : VK}, rd X.K cls as0 F0 H0 W (RP X.K) (ev C (.call f es)) σ H Q → rd X.K cls as0 F0 H0 W (RPs X.K) (evs C es) σ H (fun vs H1 => spD X.K cls C.call f ps.length (vs ++ dvs) H1 Q (EX X.K cls (W σ))) := by
    rintro σ H Q ⟨as, F', M, ρ, bi, q⟩
    replace q : OutG X.K cls (RP X.K) (W σ) ((evs C es ρ M).bind fun ds M => C.call f ds M) as F' H Q := q
    refine ⟨as, F', M, ρ, bi, (OutG.bindE (R := RPs X.K) q).imp fun vs H1 ⟨as1, F1, M1, d, e, s1, m1, r1, h1⟩ => core ⟨as1, F1, M1, d, rfl, chkA_len es hc e, m1, r1, h1⟩⟩
  cases xs with
  | nil =>
    refine ⟨fun pins s σ H Q I q => ?_⟩
    refine wpAny_Call_Name_kw (ld_glob I (gl_of hg) hm ?_ n1)
    cases es with
    | nil =>
      obtain ⟨as, F', M, ρ, bi, q1⟩ := red q
      have q2 := OutG.now (a := []) (v := []) (M := M) q1 bi.mem (Rps.nil)
      exact PySem.W.callWith_K0 I.kIn hk (run_fnSD (E := fun σ => EX X.K cls (W σ)) (us := []) F G.room hb hd (G.pass σ) I .nil q2)
    | _ => simp [chkA] at hc
  | cons y ys =>
    have hy : isStar y = false := by
      cases es <;> simp [chkA] at hc
      exact hc.1.1
    have pl : (backTo pos (starEach ys X.env)).any (·.1) = false := by
      have := hpl pos
      rw [starEach_ne hy] at this
      have this : (false || (backTo pos (starEach ys X.env)).any (·.1)) = false := this
      rwa [Bool.false_or] at this
    exact (pe_callSD F G.room (gl_of hg) hm hk hb hd G.pass ha n1 (starEach_ne hy) pl).imp fun σ H Q q => red q
end
end Ev

set_option maxRecDepth 100000
set_option maxHeartbeats 4000000
/-! Ev10: what is walked; comprehensions. -/
namespace Ev
open PySem PySem.Spec PyProof.Rows L2

/-- J walks the items xs, as long as the lists at S stand -/
structure Wk (K : PySem.W.Frag) (cls : Nat → Addr) (S : List Addr) (as : List Addr) (F : Addr → Prop) (H : Hp) (xs : List D) (J : It) : Prop where
  src : ∀ a ∈ S, a ∉ as ∧ H a ≠ none
  len : xs.length ≤ sizeLine
  go : ∀ as' F' H', Ext as F H as' F' H' → (∀ a ∈ S, H' a = H a) → ∀ i d, xs[i]? = some d → J.go i H' ∧ ∀ x H'', J.yld i H' x H'' → Stp as' F' H' as' F' H'' ∧ (∀ M, MemOk K cls as' F' M H' → MemOk K cls as' F' M H'') ∧ Rp K F' as' H'' d x
  stop : ∀ as' F' H', Ext as F H as' F' H' → (∀ a ∈ S, H' a = H a) → J.stop xs.length H'
/-- .. (o: it may be a name's own list that is walked) -/
def RI (K : PySem.W.Frag) (cls : Nat → Addr) (o : Bool) : List Addr → (Addr → Prop) → Hp → List D → It → Prop := fun as F H xs J => ∃ S, (o = false → S = []) ∧ Wk K cls S as F H xs J
def itBor : E → Bool
  | .itV (.bor _) => true
  | _ => false

section
variable {K : PySem.W.Frag} {cls : Nat → Addr} {as : List Addr} {F : Addr → Prop} {H : Hp}
theorem wk_list {xs : List D} {a : Addr} {vs : List V} {S : List Addr} (h : ∀ as' F' H', Ext as F H as' F' H' → (∀ a ∈ S, H' a = H a) → LsE K H' a vs) (hs : ∀ a ∈ S, a ∉ as ∧ H a ≠ none) (z : vs.length ≤ sizeLine) (r : Rps K F as H xs vs) :
    Wk K cls S as F H xs (Itl K a) where
  src := hs
  len := by rw [r.length]; exact z
  go := fun as' F' H' e k i d hd => by
    have l := h as' F' H' e k
    obtain ⟨v, hv, rv⟩ := (r.ext e).get hd
    refine ⟨⟨vs, v, l.sq, hv⟩, fun x H'' y => ?_⟩
    obtain ⟨rfl, q⟩ := y
    have := q vs l.sq
    rw [hv] at this
    cases this
    exact ⟨.refl, fun _ m => m, rv⟩
  stop := fun as' F' H' e k => ⟨vs, (h as' F' H' e k).sq, by rw [r.length]; exact Nat.le_refl _⟩
theorem wk_sh {xs : List D} {v : V} (h : Sh K F as H (.lst xs) v) : ∃ a vs, v = .ref a ∧ LsE K H a vs ∧ RI K cls true as F H xs (Itl K a) := by
  cases h with
  | rp h =>
    cases h with
    | lst h1 h2 h3 => exact ⟨_, _, rfl, h1.ls, [], fun _ => rfl, wk_list (fun as' F' H' e _ => (h1.step e).ls) (by simp) h2 h3⟩
  | own h1 h2 h3 h4 =>
    refine ⟨_, _, rfl, .inl h1, [_], (fun z => nomatch z), wk_list (fun as' F' H' e k => .inl (by rw [k _ (List.mem_singleton.mpr rfl)]; exact h1)) (fun b hb => ?_) h3 h4⟩
    rw [List.mem_singleton.mp hb]
    exact ⟨h2, by rw [h1]; simp⟩
theorem wk_rp {xs : List D} {v : V} (h : Rp K F as H (.lst xs) v) : ∃ a vs, v = .ref a ∧ LsE K H a vs ∧ RI K cls false as F H xs (Itl K a) := by
  cases h with
  | lst h1 h2 h3 => exact ⟨_, _, rfl, h1.ls, [], fun _ => rfl, wk_list (fun as' F' H' e _ => (h1.step e).ls) (by simp) h2 h3⟩
theorem wk_tup {xs : List D} {a : Addr} {vs : List V} (h : SqT K H a vs) (z : vs.length ≤ sizeLine) (r : Rps K F as H xs vs) : Wk K cls [] as F H xs (Itt K a) where
  src := by simp
  len := by rw [r.length]; exact z
  go := fun as' F' H' e k i d hd => by
    have l := sqT_step e h
    obtain ⟨v, hv, rv⟩ := (r.ext e).get hd
    refine ⟨⟨vs, v, l, hv⟩, fun x H'' y => ?_⟩
    obtain ⟨rfl, q⟩ := y
    have := q vs l
    rw [hv] at this
    cases this
    exact ⟨.refl, fun _ m => m, rv⟩
  stop := fun as' F' H' e k => ⟨vs, sqT_step e h, by rw [r.length]; exact Nat.le_refl _⟩
theorem wk_str {cs : List Nat} (ok : strOkC cs = true) (z : cs.length ≤ sizeLine) : Wk K cls [] as F H (cs.map fun c => .str [c]) (Its ⟨cs.toArray⟩) where
  src := by simp
  len := by rw [List.length_map]; exact z
  go := fun as' F' H' e k i d hd => by
    rw [List.getElem?_map] at hd
    cases q : cs[i]? with
    | none => rw [q] at hd; cases hd
    | some c =>
      rw [q] at hd
      cases hd
      have hi : i < cs.length := (List.getElem?_eq_some_iff.mp q).1
      refine ⟨by show i < cs.toArray.size; simpa using hi, fun x H'' y => ?_⟩
      obtain ⟨rfl, c', hc, rfl⟩ := y
      have : cs[i]? = some c' := by simpa using hc
      rw [q] at this
      cases this
      exact ⟨.refl, fun _ m => m, .str (strOkC_of ok fun c' h' => by
        rw [List.mem_singleton.mp h']
        exact List.mem_of_getElem? q) (by rw [← big_line]; show 1 ≤ big; decide)⟩
  stop := fun as' F' H' e k => by show cs.toArray.size ≤ _; simp
theorem wk_range {lo : Int} {n : Nat} (z : n ≤ sizeLine) : Wk K cls [] as F H ((List.range n).map fun (k : Nat) => D.int (lo + (k : Int))) (Itr lo n) where
  src := by simp
  len := by simpa using z
  go := fun as' F' H' e k i d hd => by
    rw [List.getElem?_map] at hd
    cases q : (List.range n)[i]? with
    | none => rw [q] at hd; cases hd
    | some j =>
      rw [q] at hd
      cases hd
      obtain ⟨hi, e2⟩ := List.getElem?_eq_some_iff.mp q
      rw [List.getElem_range] at e2
      subst e2
      refine ⟨show i < n by simpa using hi, fun x H'' y => ?_⟩
      obtain ⟨rfl, rfl⟩ := y
      exact ⟨.refl, fun _ m => m, .int _⟩
  stop := fun as' F' H' e k => by show n ≤ _; simp
end

section
variable {cls : Nat → Addr} {T : Txt} {C : Ctx} {k : Nat} {as0 : List Addr} {F0 : Addr → Prop} {H0 : Hp}
/-- a value that is walked -/
theorem snd_itV {X : Cx} {W : L2.St → XW} {o : Bool} {R : List Addr → (Addr → Prop) → Hp → D → V → Prop} {e : E} {tg a : Expr} (ha : PE X a (rd X.K cls as0 F0 H0 W R (ev C e)))
    (hR : ∀ as F H d v, R as F H d v → Sh X.K F as H d v) (hl : ∀ as F H xs v, R as F H (.lst xs) v → ∃ a vs, v = .ref a ∧ LsE X.K H a vs ∧ RI X.K cls o as F H xs (Itl X.K a)) :
    PI X tg a (rd X.K cls as0 F0 H0 W (RI X.K cls o) (evI C (.itV e))) := by
  refine ⟨fun pins s σ H Q I q => ?_⟩
  replace q : rd X.K cls as0 F0 H0 W (RI X.K cls o) (fun ρ M => (ev C e ρ M).bind fun x M => lift (seqOf x) M) σ H Q := q
  refine thn (ha.run pins s σ H _ I (rd.bind1 (R := R) q)) fun v s1 ⟨x, H1, I1, r1, as, F, M, d, m, rr, h1⟩ => ?_
  obtain ⟨xs, e1, h2⟩ := h1.lift
  have sh := hR _ _ _ _ _ rr
  have fpOk : ∀ b ∈ [s1.heap.objs.size], FpOk X pins H1 b := fun b hb => by
    rw [List.mem_singleton.mp hb]
    exact I1.fpOk (Nat.le_refl _) (I1.hok.fresh (Nat.le_refl _))
  cases d with
  | lst ys =>
    cases e1
    obtain ⟨p, vs, rfl, l, ri⟩ := hl _ _ _ _ _ rr
    cases r1
    obtain ⟨its, rv, pl, hz⟩ := I1.list l.sq
    refine wpAny_pyIter_list pl.isList ?_
    exact ⟨s1.heap.objs.size, [s1.heap.objs.size], _, _, H1, rfl, I1.kept (t' := s1.toks) fun b o e => Heap.get?_push_of_some _ e, turn_list p _, ⟨_, Heap.get?_push_size _ rfl, rfl, rfl⟩, fpOk, h2.now m ri⟩
  | tup ys =>
    cases e1
    obtain ⟨p, vs, rfl, l, z, r⟩ := sh.tup
    cases r1
    obtain ⟨its, rv, pl, hz⟩ := I1.tuple l
    refine wpAny_pyIter_tuple (show s1.heap.IsTuple p its.toArray from pl) ?_
    exact ⟨s1.heap.objs.size, [s1.heap.objs.size], _, _, H1, rfl, I1.kept (t' := s1.toks) fun b o e => Heap.get?_push_of_some _ e, turn_tuple p _, ⟨_, Heap.get?_push_size _ rfl, rfl, rfl⟩, fpOk, h2.now m ⟨[], fun _ => rfl, wk_tup l z r⟩⟩
  | str cs =>
    cases e1
    obtain ⟨rfl, ok, z⟩ := sh.str
    obtain ⟨t, rfl⟩ := r1
    have qq := h2.now m (v := Its ⟨cs.toArray⟩) ⟨[], fun _ => rfl, wk_str ok z⟩
    cases hh : (Str.mk cs.toArray).cps.all (· < 128)
    · exact wpAny_pyIter_wide hh (pi_one (tk := s1.toks) I1 _ (turn_str _ _ t "str_iterator" (.inr rfl)) ⟨_, Heap.get?_push_size _ rfl, rfl, rfl⟩ qq)
    · exact wpAny_pyIter_ascii hh (pi_one (tk := s1.toks) I1 _ (turn_str _ _ t "str_ascii_iterator" (.inl rfl)) ⟨_, Heap.get?_push_size _ rfl, rfl, rfl⟩ qq)
  | _ => cases e1
/-- range(..) -/
theorem snd_range {X : Cx} {W : L2.St → XW} (G : Good X cls T C k W) {es : E} {tg : Expr} {xs : List Expr} {p pos : Pos} (hg : glB X.env.scope ("range" : Str) = true) (hx : xs.length = 1 ∨ xs.length = 2)
    (ha : PA X xs (rd X.K cls as0 F0 H0 W (RSs X.K) (evs C es))) (hs : ∀ x ∈ xs, isStar x = false) : PI X tg (.Call (.Name ("range" : Str) p) xs [] pos) (rd X.K cls as0 F0 H0 W (RI X.K cls false) (evI C (.itRange es))) := by
  have hm := G.free ("range" : Str) (by unfold bltNames; simp)
  have g : Gl X ("range" : Str) := gl_of hg
  have e62 : (4000000000000000000 : Int) < 2 ^ 62 := by decide
  have hb := big_line
  have hbb : (big : Int) = 16777216 := rfl
  have key : ∀ {ds : List D} {vs : List V} {as : List Addr} {F : Addr → Prop} {H : Hp} {M : Mem} {W' : XW} {R : It → Hp → Prop}, MemOk X.K cls as F M H → Shs X.K F as H ds vs → OutG X.K cls (RI X.K cls false) W' (lift (rangeQ ds) M) as F H R →
      (∃ j : Int, vs = [.int j] ∧ -(2 ^ 62) ≤ j ∧ j < 2 ^ 62 ∧ R (Itr 0 j.toNat) H) ∨ (∃ i j : Int, vs = [.int i, .int j] ∧ (-(2 ^ 62) ≤ i ∧ i < 2 ^ 62 ∧ -(2 ^ 62) ≤ j ∧ j < 2 ^ 62) ∧ R (Itr i (j - i).toNat) H) := by
    intro ds vs as F H M W' R m sh h
    obtain ⟨ys, e, h2⟩ := h.lift
    cases ds with
    | nil => cases e
    | cons d ds =>
      cases ds with
      | nil =>
        cases d <;> first | (cases e; done) | skip
        rename_i j
        have e : (if -4000000000000000000 ≤ j ∧ j ≤ big then some (rangeL 0 j) else none) = some ys := e
        split at e
        · rename_i hz
          cases e
          obtain ⟨v, rfl, s1⟩ := sh.one
          refine .inl ⟨j, by rw [s1.int], by omega, by omega, h2.now m ⟨[], fun _ => rfl, ?_⟩⟩
          unfold rangeL
          rw [show (j - 0).toNat = j.toNat by rw [Int.sub_zero]]
          exact wk_range (by omega)
        · cases e
      | cons d2 ds =>
        cases ds with
        | nil =>
          cases d <;> cases d2 <;> first | (cases e; done) | skip
          rename_i i j
          have e : (if -4000000000000000000 ≤ i ∧ i ≤ 4000000000000000000 ∧ -4000000000000000000 ≤ j ∧ j ≤ 4000000000000000000 ∧ j - i ≤ big then some (rangeL i j) else none) = some ys := e
          split at e
          · rename_i hz
            cases e
            obtain ⟨v, u, rfl, s1, s2⟩ := sh.two
            refine .inr ⟨i, j, by rw [s1.int, s2.int], ⟨by omega, by omega, by omega, by omega⟩, h2.now m ⟨[], fun _ => rfl, ?_⟩⟩
            unfold rangeL
            exact wk_range (by omega)
          · cases e
        | cons d3 ds =>
          cases d <;> cases d2 <;> cases e
  have red : ∀ {σ : L2.St} {H : Hp} {R : It → Hp → Prop}, rd X.K cls as0 F0 H0 W (RI X.K cls false) (evI C (.itRange es)) σ H R → rd X.K cls as0 F0 H0 W (RSs X.K) (evs C es) σ H (fun vs H1 =>
      (∃ j : Int, vs = [.int j] ∧ -(2 ^ 62) ≤ j ∧ j < 2 ^ 62 ∧ R (Itr 0 j.toNat) H1) ∨ (∃ i j : Int, vs = [.int i, .int j] ∧ (-(2 ^ 62) ≤ i ∧ i < 2 ^ 62 ∧ -(2 ^ 62) ≤ j ∧ j < 2 ^ 62) ∧ R (Itr i (j - i).toNat) H1)) := by
    intro σ H R q
    replace q : rd X.K cls as0 F0 H0 W (RI X.K cls false) (fun ρ M => (evs C es ρ M).bind fun ds M => lift (rangeQ ds) M) σ H R := q
    exact (rd.bind1 (R := RSs X.K) q).imp fun x H1 ⟨as, F, M, a, m, r, h1⟩ => key m r h1
  refine ⟨fun pins s σ H R I q => ?_⟩
  have q := red q
  match xs, hx, hs, ha with
  | [a], _, hs, ha =>
    have h1 := hs a List.mem_cons_self
    refine Call_ (ld_blt I g hm boot_range (PyProof.Rows.callWith_type1 (thn (ha.run pos pins s σ H _ I q) fun us s1 ⟨vs, H1, I1, r1, q1⟩ => ?_) (by rw [starEach_ne h1]) rfl))
    rcases q1 with ⟨j, e, q1, q2, q⟩ | ⟨i, j, e, ⟨q1, q2, q3, q4⟩, q⟩
    · subst e
      obtain ⟨u, rfl, t, rfl⟩ := vals1 r1
      exact call_range_1 (range_it I1 (by omega) (by omega) q1 q2 (by simpa using q))
    · subst e
      obtain ⟨u, u', rfl, ⟨t, rfl⟩, ⟨t', rfl⟩⟩ := vals2 r1
      exact call_range_2 (range_it I1 q1 q2 q3 q4 q)
  | [a, b], _, hs, ha =>
    have h1 := hs a List.mem_cons_self
    have h2 := hs b (List.mem_cons_of_mem _ List.mem_cons_self)
    refine Call_ (ld_blt I g hm boot_range (PyProof.Rows.callWith_type1 (thn (ha.run pos pins s σ H _ I q) fun us s1 ⟨vs, H1, I1, r1, q1⟩ => ?_) (by rw [starEach_ne h1]) (pl_cons h2 rfl)))
    rcases q1 with ⟨j, e, q1, q2, q⟩ | ⟨i, j, e, ⟨q1, q2, q3, q4⟩, q⟩
    · subst e
      obtain ⟨u, rfl, t, rfl⟩ := vals1 r1
      exact call_range_1 (range_it I1 (by omega) (by omega) q1 q2 (by simpa using q))
    · subst e
      obtain ⟨u, u', rfl, ⟨t, rfl⟩, ⟨t', rfl⟩⟩ := vals2 r1
      exact call_range_2 (range_it I1 q1 q2 q3 q4 q)
end
end Ev

set_option maxRecDepth 100000
set_option maxHeartbeats 4000000
/-! Ev11: targets, comprehensions. -/
namespace Ev
open PySem PySem.Spec PyProof.Rows L2

/-! ### targets -/
def gIs : List Nat → TGs
  | [] => gNil
  | i :: is => gCons (gName i) (gIs is)
def gTg (K : PySem.W.Frag) : Tg → TG
  | .nm i => gName i
  | .tp is => gTup K is.length (gIs is)
theorem assignEach_names {N : List Str} {sc : Scope} {env : PySem.Env} : ∀ (is : List Nat) (xs : List Expr), tgsB N sc is xs = true → assignEach xs env = xs.map (fun x => (false, assign x env)) ∧ xs.length = is.length
  | [], [], _ => ⟨rfl, rfl⟩
  | [], _ :: _, h => by simp [tgsB] at h
  | _ :: _, [], h => by simp [tgsB] at h
  | i :: is, x :: xs, h => by
    cases x with
    | Name y p =>
      simp only [tgsB, Bool.and_eq_true] at h
      obtain ⟨a, b⟩ := assignEach_names is xs h.2
      refine ⟨?_, by simp [b]⟩
      show (false, assign (.Name y p) env) :: assignEach xs env = _
      rw [a]; rfl
    | _ => simp [tgsB] at h
/-- X stores at its own names: in a def's body, or in a comprehension's block whose scope is sc -/
def Stores (X : Cx) (sc : Scope) : Prop := ∀ x, locB sc x = true → L2.Loc X.env.scope x ∧ (X.fn x = true ∨ X.env.scope.names.lookup x = some .local)
theorem pg_is {X : Cx} {sc : Scope} (hN : X.N.Nodup) (hs : Stores X sc) : ∀ (is : List Nat) (xs : List Expr), tgsB X.N sc is xs = true → PGs X xs (gIs is)
  | [], [], _ => pgs_nil
  | [], _ :: _, h => by simp [tgsB] at h
  | _ :: _, [], h => by simp [tgsB] at h
  | i :: is, x :: xs, h => by
    cases x with
    | Name y p =>
      have h0 := h
      simp only [tgsB, Bool.and_eq_true, decide_eq_true_eq] at h
      obtain ⟨l, f⟩ := hs y h.1.2
      refine pgs_cons (pg_name hN h.1.1 l f) (pg_is hN hs is xs h.2) ?_
      rfl
    | _ => simp [tgsB] at h
theorem pg_tg {X : Cx} {sc : Scope} (hN : X.N.Nodup) (hc : X.calm = true) (hs : Stores X sc) {t : Tg} {tg : Expr} (h : tgB X.N sc t tg = true) : PG X tg (gTg X.K t) := by
  cases t with
  | nm i =>
    cases tg with
    | Name y p =>
      simp only [tgB, Bool.and_eq_true, decide_eq_true_eq] at h
      obtain ⟨l, f⟩ := hs y h.2
      exact pg_name hN h.1 l f
    | _ => simp [tgB] at h
  | tp is =>
    cases tg with
    | Tuple xs kk p =>
      simp only [tgB, Bool.and_eq_true] at h
      obtain ⟨a, b⟩ := assignEach_names (env := X.env) is xs h.1
      refine pg_tup hc (pg_is hN hs is xs h.1) ?_ ?_
      · rw [a, List.length_map, b]
      · rw [a, List.findIdx?_map]
        rw [List.findIdx?_eq_none_iff]
        intro x _
        rfl
    | _ => simp [tgB] at h

section
variable {K : PySem.W.Frag} {cls : Nat → Addr} {as : List Addr} {F : Addr → Prop} {H H0 : Hp} {M : Mem}
/-- what stands outside the names vs -/
def Outs (vs : List Nat) (σ σ' : L2.St) : Prop := σ'.length = σ.length ∧ ∀ i, i ∉ vs → σ'[i]? = σ[i]?
theorem Outs.refl {vs : List Nat} {σ : L2.St} : Outs vs σ σ := ⟨rfl, fun _ _ => rfl⟩
theorem Outs.set {vs : List Nat} {σ σ' : L2.St} (h : Outs vs σ σ') {i : Nat} {w : Option V} (hi : i ∈ vs) : Outs vs σ (σ'.set i w) :=
  ⟨by rw [List.length_set]; exact h.1, fun j hj => by rw [List.getElem?_set_ne (fun z => hj (by rw [← z]; exact hi))]; exact h.2 j hj⟩
theorem wipe_get (σ : L2.St) : ∀ (vs : List Nat) (i : Nat), (wipe σ vs)[i]? = if i ∈ vs then (if i < σ.length then some none else none) else σ[i]?
  | [], i => by simp [wipe]
  | v :: vs, i => by
    unfold wipe
    by_cases hv : v = i
    · subst hv
      rw [if_pos List.mem_cons_self]
      by_cases hl : v < σ.length
      · rw [if_pos hl, List.getElem?_set_self (by rw [wipe_length]; exact hl)]
      · rw [if_neg hl, List.getElem?_eq_none (by rw [List.length_set, wipe_length]; omega)]
    · rw [List.getElem?_set_ne hv, wipe_get σ vs i]
      have : (i ∈ v :: vs) ↔ i ∈ vs := by
        simp only [List.mem_cons]
        exact ⟨fun z => z.resolve_left (fun q => hv q.symm), .inr⟩
      simp only [this]
theorem wipe_outs {vs : List Nat} {σ σ' : L2.St} (h : Outs vs (wipe σ vs) σ') : wipe σ' vs = wipe σ vs := by
  have hl : σ'.length = σ.length := by rw [h.1, wipe_length]
  refine List.ext_getElem? fun i => ?_
  rw [wipe_get, wipe_get, hl]
  by_cases hi : i ∈ vs
  · rw [if_pos hi, if_pos hi]
  · rw [if_neg hi, if_neg hi, h.2 i hi, wipe_get, if_neg hi]
theorem SlOk.wipe {ρ : Ev.Env} {σ : L2.St} (h : SlOk K H0 as F ρ σ H) : ∀ vs : List Nat, SlOk K H0 as F (wipeD ρ vs) (L2.wipe σ vs) H
  | [] => h
  | v :: vs => (SlOk.wipe h vs).setNo v none
theorem tgs_red : ∀ (is : List Nat) (ds : List D) (us : List V) {ρ : Ev.Env} {σ σ1 : L2.St} {vs : List Nat} {Q : L2.St → Hp → Prop}, SlOk K H0 as F ρ σ H → Rps K F as H ds us → is.length = ds.length → (∀ i ∈ is, i < ρ.length) → (∀ i ∈ is, i ∈ vs) → Outs vs σ1 σ →
    (∀ σ', SlOk K H0 as F (List.foldl (fun ρ (p : Nat × D) => ρ.set p.1 (.val p.2)) ρ (is.zip ds)) σ' H → Outs vs σ1 σ' → Q σ' H) → gIs is us σ H Q
  | [], [], us, ρ, σ, σ1, vs, Q, s, r, _, _, _, o, q => by
    cases r
    exact ⟨rfl, q _ s o⟩
  | [], _ :: _, _, _, _, _, _, _, _, _, h, _, _, _, _ => by simp at h
  | _ :: _, [], _, _, _, _, _, _, _, _, h, _, _, _, _ => by simp at h
  | i :: is, d :: ds, us, ρ, σ, σ1, vs, Q, s, r, hl, hi, hv, o, q => by
    cases r with
    | cons r1 r2 =>
      refine ⟨_, _, rfl, ?_⟩
      refine tgs_red is ds _ (s.setVal (hi i List.mem_cons_self) r1) r2 (by simpa using hl) (fun j hj => ?_) (fun j hj => hv j (List.mem_cons_of_mem _ hj)) (o.set (hv i List.mem_cons_self)) q
      rw [List.length_set]
      exact hi j (List.mem_cons_of_mem _ hj)
theorem tg_red {t : Tg} {d : D} {v : V} {ρ ρ' : Ev.Env} {σ σ1 : L2.St} {vs : List Nat} {Q : L2.St → Hp → Prop} (s : SlOk K H0 as F ρ σ H) (r : Rp K F as H d v) (h : setTg t d ρ = some ρ') (hv : tgOk t vs = true) (o : Outs vs σ1 σ)
    (q : ∀ σ', SlOk K H0 as F ρ' σ' H → Outs vs σ1 σ' → Q σ' H) : gTg K t v σ H Q := by
  cases t with
  | nm i =>
    have h : (if i < ρ.length then some (ρ.set i (.val d)) else none) = some ρ' := h
    split at h
    · rename_i hi
      cases h
      exact q _ (s.setVal hi r) (o.set (by simpa [tgOk] using hv))
    · cases h
  | tp is =>
    cases d with
    | tup ds =>
      have h : (if is.length = ds.length ∧ is.all (· < ρ.length) then some (List.foldl (fun ρ (p : Nat × D) => ρ.set p.1 (.val p.2)) ρ (is.zip ds)) else none) = some ρ' := h
      split at h
      · rename_i hi
        cases h
        cases r with
        | tup h1 h2 h3 =>
          refine ⟨_, _, rfl, h1, by rw [← h3.length]; exact hi.1.symm, ?_⟩
          refine tgs_red is ds _ s h3 hi.1 (fun j hj => ?_) (fun j hj => ?_) o q
          · have := List.all_eq_true.mp hi.2 j hj
            simpa using this
          · have := List.all_eq_true.mp (show is.all vs.contains = true from hv) j hj
            simpa using this
      · cases h
    | _ => cases h
/-- a comprehension -/
theorem comp_redG {as0 : List Addr} {F0 : Addr → Prop} {W : L2.St → XW} {R : List Addr → (Addr → Prop) → Hp → D → V → Prop} {o : Bool} {C : Ctx} {vs : List Nat} {t : Tg} {it c e : E} {σ : L2.St} {Q : VK} (hv : tgOk t vs = true)
    (fin : ∀ (as1 : List Addr) (F1 : Addr → Prop) (H1 : Hp) (as2 : List Addr) (F2 : Addr → Prop) (H2 : Hp) (M2 : Mem) (D : Addr) (ys : List Ev.D) (acc : List V), Stp as0 F0 H0 as1 F1 H1 → (∀ a, H1 a = none → H a = none) → Stp as1 F1 H1 as2 F2 H2 → MemOk K cls as2 F2 M2 H2 → H2 D = some (.lst acc) → ¬ F2 D → D ∉ as2 → H1 D = none →
      Rps K F2 as2 H2 ys acc → acc.length ≤ sizeLine → OutG K cls R W0 (.ok (.lst ys) M2) as1 F1 H1 Q → Q (.ref D) H2)
    (q : rd K cls as0 F0 H0 W R (ev C (.comp vs t it c e)) σ H Q) :
    tLc (rd K cls as0 F0 H0 W (RI K cls o) (evI C it)) (gTg K t) (rd K cls as0 F0 H0 (fun _ => W0) RB (tst c.isNil (ev C c))) (rd K cls as0 F0 H0 (fun _ => W0) (RP K) (ev C e)) vs σ H Q := by
  obtain ⟨as, F, M, ρ, bi, q⟩ := q
  obtain ⟨H_, eH⟩ : ∃ H_, H_ = H := ⟨_, rfl⟩
  replace q : OutG K cls R (W σ) ((evI C it ρ M).bind fun xs M => (compL (wipeD ρ vs) t (tst c.isNil (ev C c)) (ev C e) xs M).noexc.bind fun ys M => .ok (.lst ys) M) as F H Q := q
  refine ⟨as, F, M, ρ, bi, (OutG.bind (R := RI K cls o) q).imp fun J H1 ⟨as1, F1, M1, xs, s1, m1, ⟨S, hS, wk⟩, h1⟩ => ?_⟩
  intro D hD
  have bi1 := bi.step s1 m1
  have nF1 : ¬ F1 D := fun z => m1.fd D z hD
  have nA1 : D ∉ as1 := fun z => m1.there z hD
  have sl := bi1.slo.wipe vs
  refine ⟨fun i m H => m = xs.length - i ∧ i ≤ xs.length ∧ ∃ as F M acc ys, Stp as1 F1 H1 as F H ∧ MemOk K cls as F M H ∧ H D = some (.lst acc) ∧ ¬ F D ∧ D ∉ as ∧ Rps K F as H ys acc ∧ ys.length ≤ i ∧
    OutG K cls R W0 ((compL (wipeD ρ vs) t (tst c.isNil (ev C c)) (ev C e) (xs.drop i) M).noexc.bind fun zs M => .ok (.lst (ys ++ zs)) M) as1 F1 H1 Q, ⟨xs.length, by simp, by simp, as1, F1, M1, [], [], Stp.laid hD, m1.laid hD, upd_same, nF1, nA1, .nil, by simp, ?_⟩, ?_⟩
  · show OutG K cls R W0 ((compL (wipeD ρ vs) t (tst c.isNil (ev C c)) (ev C e) xs M1).noexc.bind fun zs M => .ok (.lst zs) M) as1 F1 H1 Q
    cases e1 : compL (wipeD ρ vs) t (tst c.isNil (ev C c)) (ev C e) xs M1 with
    | ok ys M' => rw [e1] at h1; exact h1
    | exc c d M' => rw [e1] at h1; exact h1
    | bad => rw [e1] at h1; exact h1
  · rintro i m H ⟨rfl, hi, as2, F2, M2, acc, ys, s2, m2, hacc, nF, nA, r, hl, h2⟩
    have kS : ∀ {as' : List Addr} {F' : Addr → Prop} {H' : Hp}, Stp as1 F1 H1 as' F' H' → ∀ a ∈ S, H' a = H1 a := fun {as' F' H'} s a ha => by
      obtain ⟨na, nn⟩ := wk.src a ha
      cases e1 : H1 a with
      | none => exact absurd e1 nn
      | some ob => exact s.keep a ob e1 na
    by_cases hlt : i < xs.length
    · have hd : xs[i]? = some xs[i] := List.getElem?_eq_getElem hlt
      obtain ⟨go, turn⟩ := wk.go as2 F2 H s2.ext (kS s2) i _ hd
      rw [List.drop_eq_getElem_cons hlt] at h2
      refine .inr ⟨go, fun H' => ∃ as F M acc ys, Stp as1 F1 H1 as F H' ∧ MemOk K cls as F M H' ∧ H' D = some (.lst acc) ∧ ¬ F D ∧ D ∉ as ∧ Rps K F as H' ys acc ∧ ys.length ≤ i + 1 ∧
        OutG K cls R W0 ((compL (wipeD ρ vs) t (tst c.isNil (ev C c)) (ev C e) (xs.drop (i + 1)) M).noexc.bind fun zs M => .ok (.lst (ys ++ zs)) M) as1 F1 H1 Q, fun H' n => ⟨xs.length - (i + 1), by omega, rfl, hlt, n⟩, fun x H' y => ?_⟩
      obtain ⟨s3, mm3, rx⟩ := turn x H' y
      have m3 := mm3 M2 m2
      replace h2 : OutG K cls R W0 ((((lift (setTg t xs[i] (wipeD ρ vs)) M2).bind fun ρ1 M1 => (tst c.isNil (ev C c) ρ1 M1).bind fun b M2 =>
        if b then (ev C e ρ1 M2).bind fun y M3 => (compL (wipeD ρ vs) t (tst c.isNil (ev C c)) (ev C e) (xs.drop (i + 1)) M3).bind fun ys M4 => .ok (y :: ys) M4 else compL (wipeD ρ vs) t (tst c.isNil (ev C c)) (ev C e) (xs.drop (i + 1)) M2).noexc).bind fun zs M => .ok (.lst (ys ++ zs)) M) as1 F1 H1 Q := h2
      cases e1 : setTg t xs[i] (wipeD ρ vs) with
      | none => rw [e1] at h2; exact h2.elim
      | some ρ2 =>
        rw [e1] at h2
        have s13 := s2.trans s3
        refine tg_red (sl.step s13) rx e1 hv .refl fun σ2 sl2 ou => ⟨wipe_outs ou, ?_⟩
        have bi2 : BI K cls as0 F0 H0 as2 F2 M2 ρ2 σ2 H' := ⟨bi1.stp.trans s13, m3, sl2⟩
        refine ⟨as2, F2, M2, ρ2, bi2, ?_⟩
        replace h2 : OutG K cls R W0 ((((tst c.isNil (ev C c) ρ2 M2).bind fun b M2 =>
          if b then (ev C e ρ2 M2).bind fun y M3 => (compL (wipeD ρ vs) t (tst c.isNil (ev C c)) (ev C e) (xs.drop (i + 1)) M3).bind fun ys M4 => .ok (y :: ys) M4 else compL (wipeD ρ vs) t (tst c.isNil (ev C c)) (ev C e) (xs.drop (i + 1)) M2).noexc).bind fun zs M => .ok (.lst (ys ++ zs)) M) as1 F1 H1 Q := h2
        cases e2 : tst c.isNil (ev C c) ρ2 M2 with
        | exc _ _ _ => rw [e2] at h2; exact h2.elim
        | bad => rw [e2] at h2; exact h2.elim
        | ok b M4 =>
          rw [e2] at h2
          intro as4 F4 v4 H4 s4 m4 ev4
          subst ev4
          have s14 := s13.trans s4
          have hacc4 : H4 D = some (.lst acc) := s4.keep D _ (s3.keep D _ hacc nA) nA
          have own4 : ∀ {as' : List Addr} {F' : Addr → Prop} {H' : Hp}, Stp as2 F2 H as' F' H' → ¬ F' D ∧ D ∉ as' := fun {as' F' H'} s => by
            refine ⟨fun z => ?_, fun z => ?_⟩
            · rcases s.newF D z with z | z
              · exact nF z
              · rw [hacc] at z; cases z
            · rcases s.mem z with z | z
              · exact nA z
              · rw [hacc] at z; cases z
          cases b with
          | false =>
            rw [if_neg Bool.false_ne_true]
            exact ⟨as4, F4, M4, acc, ys, s14, m4, hacc4, (own4 (s3.trans s4)).1, (own4 (s3.trans s4)).2, r.step (s3.trans s4), by omega, h2⟩
          | true =>
            rw [if_pos rfl]
            refine ⟨as4, F4, M4, ρ2, bi2.step s4 m4, ?_⟩
            replace h2 : OutG K cls R W0 ((((ev C e ρ2 M4).bind fun y M3 => (compL (wipeD ρ vs) t (tst c.isNil (ev C c)) (ev C e) (xs.drop (i + 1)) M3).bind fun ys M4 => .ok (y :: ys) M4).noexc).bind fun zs M => .ok (.lst (ys ++ zs)) M) as1 F1 H1 Q := h2
            cases e3 : ev C e ρ2 M4 with
            | exc _ _ _ => rw [e3] at h2; exact h2.elim
            | bad => rw [e3] at h2; exact h2.elim
            | ok dy M5 =>
              rw [e3] at h2
              intro as5 F5 vy H5 s5 m5 ry
              have s25 := (s3.trans s4).trans s5
              have hacc5 : H5 D = some (.lst acc) := s5.keep D _ hacc4 (own4 (s3.trans s4)).2
              obtain ⟨nF5, nA5⟩ := own4 s25
              have rl := r.length
              have wl := wk.len
              refine ⟨acc, hacc5, by omega, as5, F5, M5, acc ++ [vy], ys ++ [dy], (s14.trans s5).own hacc5 nF5 hD, m5.own hacc5 nF5 nA5, upd_same, nF5, nA5, ?_, by rw [List.length_append]; simp; omega, ?_⟩
              · exact ((r.step s25).append (.cons ry .nil)).ext (Ext.own hacc5 nF5)
              · replace h2 : OutG K cls R W0 ((((compL (wipeD ρ vs) t (tst c.isNil (ev C c)) (ev C e) (xs.drop (i + 1)) M5).bind fun ys M4 => .ok (dy :: ys) M4).noexc).bind fun zs M => .ok (.lst (ys ++ zs)) M) as1 F1 H1 Q := h2
                cases e4 : compL (wipeD ρ vs) t (tst c.isNil (ev C c)) (ev C e) (xs.drop (i + 1)) M5 with
                | exc _ _ _ => rw [e4] at h2; exact h2.elim
                | bad => rw [e4] at h2; exact h2.elim
                | ok zs M6 =>
                  rw [e4] at h2
                  have e5 : (ys ++ [dy]) ++ zs = ys ++ dy :: zs := by simp
                  show OutG K cls R W0 (.ok (.lst ((ys ++ [dy]) ++ zs)) M6) as1 F1 H1 Q
                  rw [e5]
                  exact h2
    · have ei : i = xs.length := by omega
      subst ei
      refine .inl ⟨wk.stop as2 F2 H s2.ext (kS s2), ?_⟩
      rw [List.drop_length] at h2
      have h2 : OutG K cls R W0 (.ok (.lst (ys ++ [])) M2) as1 F1 H1 Q := h2
      rw [List.append_nil] at h2
      have rl := r.length
      have wl := wk.len
      refine fin as1 F1 H1 as2 F2 H M2 D ys acc bi1.stp (fun a ha => ?_) s2 m2 hacc nF nA hD r (by omega) h2
      rw [← eH]
      rw [← eH] at s1
      cases e9 : H_ a with
      | none => rfl
      | some ob => exact absurd ha (s1.dom a (by rw [e9]; simp))
/-- .. its list fixed -/
theorem comp_red {as0 : List Addr} {F0 : Addr → Prop} {W : L2.St → XW} {o : Bool} {C : Ctx} {vs : List Nat} {t : Tg} {it c e : E} {σ : L2.St} {Q : VK} (hv : tgOk t vs = true)
    (q : rd K cls as0 F0 H0 W (RP K) (ev C (.comp vs t it c e)) σ H Q) :
    tLc (rd K cls as0 F0 H0 W (RI K cls o) (evI C it)) (gTg K t) (rd K cls as0 F0 H0 (fun _ => W0) RB (tst c.isNil (ev C c))) (rd K cls as0 F0 H0 (fun _ => W0) (RP K) (ev C e)) vs σ H Q := by
  refine comp_redG hv (fun as1 F1 H1 as2 F2 H M2 D ys acc s0 hn s2 m2 hacc nF nA hD r z h2 => ?_) q
  have ex : Ext as2 F2 H as2 (fun a => F2 a ∨ a = D) H := ⟨fun _ _ h => h, fun _ h => .inl h, fun a o f h => h, fun _ _ h _ => h⟩
  refine h2 as2 (fun a => F2 a ∨ a = D) (.ref D) H ⟨s2.pre, fun a h => .inl (s2.fr a h), fun a h => ?_, s2.keep, s2.keepF, s2.keepI, s2.dom⟩ ⟨m2.len, m2.nd, fun a ha z => ?_, fun a z => ?_, fun j mo a g1 g2 => (m2.ob j mo a g1 g2).ext ex rfl⟩ (.lst (.inl ⟨.inr rfl, hacc⟩) z (r.ext ex))
  · rcases h with h | h
    · exact s2.newF a h
    · exact .inr (by rw [h]; exact hD)
  · rcases z with z | z
    · exact m2.nf a ha z
    · exact nA (by rw [← z]; exact ha)
  · rcases z with z | z
    · exact m2.fd a z
    · rw [z, hacc]; simp
end
end Ev

set_option maxRecDepth 100000
set_option maxHeartbeats 8000000
/-! Ev12: every expression. -/
namespace Ev
open PySem PySem.Spec PyProof.Rows L2

section
variable {cls : Nat → Addr} {T : Txt} {C : Ctx} {k : Nat} {as0 : List Addr} {F0 : Addr → Prop} {H0 : Hp}
theorem pass_W0 {X : Cx} {cls : Nat → Addr} {σ : L2.St} : PassesAt (L2.CX X.prog X.w) X σ (EX X.K cls W0) := fun _ _ _ _ _ _ h => by
  obtain ⟨_, _, _, _, _, _, _, _, _, _, _, _, e⟩ := h
  obtain ⟨_, _, _, _, _, _, _, _, _, _, _, _, z⟩ := e
  exact z.elim
theorem Good.blk {X : Cx} {W : L2.St → XW} (G : Good X cls T C k W) (s : Shared) (H : Hp) (scope : Scope) (cenv : PySem.Env) (fp : List Addr) : Good (X.blk s H scope cenv fp) cls T C k (fun _ => W0) :=
  ⟨G.nd, G.calm, G.room, G.free, G.con, G.fn, fun σ => pass_W0 (X := X.blk s H scope cenv fp)⟩
theorem stores_blk {X : Cx} {s : Shared} {H : Hp} {scope : Scope} {c : Addr} {cl : List (Str × Addr)} {fp : List Addr} : Stores (X.blk s H scope (compEnvC scope cl c X.env) fp) scope := by
  intro x h
  have hsc : (compEnvC scope cl c X.env).scope = relS scope X.env.scope := rfl
  unfold locB at h
  split at h
  · rename_i e
    have := lookup_relS_keep (sc := X.env.scope) (by decide) e
    exact ⟨.inl (by show (compEnvC scope cl c X.env).scope.names.lookup x = _; rw [hsc]; exact this), .inr (by show (compEnvC scope cl c X.env).scope.names.lookup x = _; rw [hsc]; exact this)⟩
  · rename_i e
    have := lookup_relS_keep (sc := X.env.scope) (by decide) e
    exact ⟨.inr (by show (compEnvC scope cl c X.env).scope.names.lookup x = _; rw [hsc]; exact this), .inl (by show (scope.names.lookup x == some NameKind.cell) = true; rw [e]; rfl)⟩
  · cases h
theorem ownOfVs_snd (N : List Str) : ∀ vs : List Nat, (ownOfVs N vs).map (·.2) = vs
  | [] => rfl
  | v :: vs => by simp [ownOfVs, ownOfVs_snd N vs]
/-- tuple and list displays -/
theorem snd_tup {X : Cx} {W : L2.St → XW} {es : E} {xs : List Expr} {kk : Nat} {p : Pos} (ha : PA X xs (rd X.K cls as0 F0 H0 W (RPs X.K) (evs C es))) : PE X (.Tuple xs kk p) (rd X.K cls as0 F0 H0 W (RP X.K) (ev C (.tup es))) := by
  refine (pe_tup ha).imp fun σ H Q q => ?_
  replace q : rd X.K cls as0 F0 H0 W (RP X.K) (fun ρ M => (evs C es ρ M).bind fun ds M => if ds.length ≤ big then .ok (.tup ds) M else .bad) σ H Q := q
  refine (rd.bind1 (R := RPs X.K) q).imp fun vs H1 ⟨as, F, M, ds, m, r, h⟩ => ?_
  have e := r.length
  split at h
  · rename_i hz
    have z : vs.length ≤ sizeLine := by rw [← big_line, ← e]; exact hz
    exact ⟨z, h.newT m r z⟩
  · exact h.elim
theorem snd_lst {X : Cx} {W : L2.St → XW} {es : E} {xs : List Expr} {p : Pos} (ha : PA X xs (rd X.K cls as0 F0 H0 W (RPs X.K) (evs C es))) : PE X (.List xs p) (rd X.K cls as0 F0 H0 W (RP X.K) (ev C (.lst es))) := by
  refine (pe_lst ha).imp fun σ H Q q => ?_
  replace q : rd X.K cls as0 F0 H0 W (RP X.K) (fun ρ M => (evs C es ρ M).bind fun ds M => if ds.length ≤ big then .ok (.lst ds) M else .bad) σ H Q := q
  refine (rd.bind1 (R := RPs X.K) q).imp fun vs H1 ⟨as, F, M, ds, m, r, h⟩ => ?_
  have e := r.length
  split at h
  · rename_i hz
    have z : vs.length ≤ sizeLine := by rw [← big_line, ← e]; exact hz
    exact ⟨z, h.newL m r z⟩
  · exact h.elim
/-- a bound of a slice, as the evaluator has it -/
theorem snd_po {X : Cx} {W : L2.St → XW} {e : E} {a : Option Expr} (h : bndB e.isNon (fun l => chkE T X.N X.env.scope e l) a = true) (ih : ∀ l, chkE T X.N X.env.scope e l = true → PE X l (rd X.K cls as0 F0 H0 W (RP X.K) (ev C e))) :
    PO X a (fun σ H Q => rd X.K cls as0 F0 H0 W (RP X.K) (ev C e) σ H fun x H1 => (x = .non ∧ a = none ∧ Q none H1) ∨ ∃ i, x = .int i ∧ a.isSome = true ∧ Q (some i) H1) := by
  cases a with
  | none =>
    refine ⟨fun pins s σ H Q I q => ?_⟩
    cases e <;> first | (cases h; done) | skip
    obtain ⟨as, F, M, ρ, bi, q⟩ := q
    have q2 := OutG.now (a := D.non) (v := V.non) (M := M) q bi.mem .non
    rcases q2 with ⟨_, _, q2⟩ | ⟨_, e, _⟩
    · exact po_none.run pins s σ H Q I q2
    · cases e
  | some l =>
    simp only [bndB, Bool.and_eq_true] at h
    refine ⟨fun pins s σ H Q I q => (po_some (ih l h.2)).run pins s σ H Q I (rd.imp q fun x H1 q1 => ?_)⟩
    rcases q1 with ⟨_, z, _⟩ | ⟨i, e, _, q1⟩
    · cases z
    · exact ⟨i, e, q1⟩
theorem bound_of {as : List Addr} {F : Addr → Prop} {H : Hp} {K : PySem.W.Frag} {e : E} {d : D} {v : V} {a : Option Expr} {o : Option Int} {N : List Str} {sc : Scope} (h : bndB e.isNon (fun l => chkE T N sc e l) a = true)
    (r : Rp K F as H d v) (hb : boundQ e.isNon d = some o) : (v = .non ∧ a = none ∧ o = none) ∨ ∃ i, v = .int i ∧ a.isSome = true ∧ o = some i := by
  cases a with
  | none =>
    have h : e.isNon = true := h
    rw [h] at hb
    cases r <;> first | (cases hb; done) | skip
    cases hb
    exact .inl ⟨rfl, rfl, rfl⟩
  | some l =>
    simp only [bndB, Bool.and_eq_true, Bool.not_eq_true'] at h
    rw [h.1] at hb
    cases r <;> first | (cases hb; done) | skip
    cases hb
    exact .inr ⟨_, rfl, rfl, rfl⟩
end
end Ev

set_option maxRecDepth 100000
set_option maxHeartbeats 8000000
/-! Ev13: every expression. -/
namespace Ev
open PySem PySem.Spec PyProof.Rows L2

theorem folded_of {iter : Expr} {env : PySem.Env} (h : isSetE iter = false) : ∀ x, foldedSetIterable iter env x = pure x := by
  intro x
  cases iter <;> first | rfl | cases h
theorem base_of {o : Expr} {m : Str} {env : PySem.Env} (h : isCallE o = false) : attributeBase o m env (eval o env) = eval o env := by
  cases o <;> first | rfl | cases h
theorem tst_not {C : Ctx} {b : E} : tst false (ev C (.not b)) = fun ρ M => (tst false (ev C b) ρ M).bind fun k M => .ok (!k) M := by
  funext ρ M
  show ((ev C b ρ M).bind fun x M => (lift (x.tru M) M).bind fun k M => .ok (D.bl (!k)) M).bind (fun x M => lift (x.tru M) M) = ((ev C b ρ M).bind fun x M => lift (x.tru M) M).bind fun k M => .ok (!k) M
  cases ev C b ρ M with
  | ok x M1 =>
    simp only [Res.bind]
    cases x.tru M1 <;> rfl
  | exc _ _ _ => rfl
  | bad => rfl
theorem tst_and {C : Ctx} {e r : E} (h : r.isNil = false) : tst false (evAnd C (.cons e r)) = fun ρ M => (tst false (ev C e) ρ M).bind fun k M => if k then tst false (evAnd C r) ρ M else .ok false M := by
  funext ρ M
  show (if r.isNil = true then ev C e ρ M else (ev C e ρ M).bind fun x M => (lift (x.tru M) M).bind fun k M => if k then evAnd C r ρ M else .ok x M).bind (fun x M => lift (x.tru M) M) = ((ev C e ρ M).bind fun x M => lift (x.tru M) M).bind fun k M => if k then (evAnd C r ρ M).bind (fun x M => lift (x.tru M) M) else .ok false M
  rw [if_neg (by rw [h]; decide)]
  cases ev C e ρ M with
  | ok x M1 =>
    simp only [Res.bind]
    cases q : x.tru M1 with
    | none => rfl
    | some k =>
      cases k
      · simp [lift, Res.bind, q]
      · rfl
  | exc _ _ _ => rfl
  | bad => rfl
theorem tst_or {C : Ctx} {e r : E} (h : r.isNil = false) : tst false (evOr C (.cons e r)) = fun ρ M => (tst false (ev C e) ρ M).bind fun k M => if k then .ok true M else tst false (evOr C r) ρ M := by
  funext ρ M
  show (if r.isNil = true then ev C e ρ M else (ev C e ρ M).bind fun x M => (lift (x.tru M) M).bind fun k M => if k then .ok x M else evOr C r ρ M).bind (fun x M => lift (x.tru M) M) = ((ev C e ρ M).bind fun x M => lift (x.tru M) M).bind fun k M => if k then .ok true M else (evOr C r ρ M).bind (fun x M => lift (x.tru M) M)
  rw [if_neg (by rw [h]; decide)]
  cases ev C e ρ M with
  | ok x M1 =>
    simp only [Res.bind]
    cases q : x.tru M1 with
    | none => rfl
    | some k =>
      cases k
      · rfl
      · simp [lift, Res.bind, q]
  | exc _ _ _ => rfl
  | bad => rfl
theorem evAnd_one {C : Ctx} {e r : E} (h : r.isNil = true) : evAnd C (.cons e r) = ev C e := by
  funext ρ M
  show (if r.isNil = true then ev C e ρ M else _) = _
  rw [if_pos h]
theorem evOr_one {C : Ctx} {e r : E} (h : r.isNil = true) : evOr C (.cons e r) = ev C e := by
  funext ρ M
  show (if r.isNil = true then ev C e ρ M else _) = _
  rw [if_pos h]
theorem ixDs_spec : ∀ {xs : List D} {x : D} {j : Nat}, ixDs x xs = some j → ∃ z, xs[j]? = some z ∧ eqD z x = true ∧ ∀ m z', m < j → xs[m]? = some z' → eqD z' x = false
  | [], _, _, h => by cases h
  | y :: ys, x, j, h => by
    have h : (if eqD y x then some 0 else (ixDs x ys).map (· + 1)) = some j := h
    split at h
    · rename_i e
      cases h
      exact ⟨y, rfl, e, fun m z' hm => absurd hm (Nat.not_lt_zero _)⟩
    · rename_i e
      cases q : ixDs x ys with
      | none => rw [q] at h; cases h
      | some i =>
        rw [q] at h
        cases h
        obtain ⟨z, h1, h2, h3⟩ := ixDs_spec q
        refine ⟨z, by simpa using h1, h2, fun m z' hm hz => ?_⟩
        cases m with
        | zero =>
          have : y = z' := by simpa using hz
          rw [← this]
          simpa using e
        | succ m => exact h3 m z' (Nat.lt_of_succ_lt_succ hm) (by simpa using hz)
section
variable {cls : Nat → Addr} {T : Txt} {C : Ctx} {k : Nat} {as0 : List Addr} {F0 : Addr → Prop} {H0 : Hp}
theorem snd_index {X : Cx} {W : L2.St → XW} (G : Good X cls T C k W) {o e : E} {x y : Expr} {p1 p2 : Pos} (hp : (p1.endLine == p2.line) = true) (hy : isStar y = false) (hx : isCallE x = false)
    (ho : PE X x (rd X.K cls as0 F0 H0 W (RS X.K) (ev C o))) (he : PE X y (rd X.K cls as0 F0 H0 W (RP X.K) (ev C e))) : PE X (.Call (.Attribute x ("index" : Str) p1) [y] [] p2) (rd X.K cls as0 F0 H0 W (RP X.K) (ev C (.bm .index o (.cons e .nil)))) := by
  have hu := G.room.units
  have hu2 := G.room.un
  refine (pe_bm PySem.F.plainAttrs_list PySem.F.slot_list_index PySem.F.type_list_index (mt_indexD (by omega)) ho (pa_cons he pa_nil (starEach_ne hy)) (base_of hx) ?_ hp (starEach_ne hy) rfl).imp fun σ H Q q => ?_
  · rw [starEach_ne hy]; rfl
  · obtain ⟨as, F, M, ρ, bi, q⟩ := q
    replace q : OutG X.K cls (RP X.K) (W σ) ((ev C o ρ M).bind fun x M => (lift (recv .index x) M).bind fun _ M => ((ev C e ρ M).bind fun y M => (Res.ok [] M).bind fun ys M => .ok (y :: ys) M).bind fun ds M => lift (bmQ M .index x ds) M) as F H Q := q
    refine ⟨as, F, M, ρ, bi, (OutG.bind (R := RS X.K) q).imp fun v H1 ⟨as1, F1, M1, d, s1, m1, r1, h1⟩ => ?_⟩
    obtain ⟨_, hrecv, h1⟩ := h1.lift_bind
    have h1 : OutG X.K cls (RP X.K) (W σ) ((ev C e ρ M1).bind fun y M => lift (bmQ M .index d [y]) M) as1 F1 H1 Q := by
      cases e1 : ev C e ρ M1 with
      | ok d M' => rw [e1] at h1; exact h1
      | exc c d M' => rw [e1] at h1; exact h1
      | bad => rw [e1] at h1; exact h1
    have hl : ∃ xs, d = .lst xs := by cases d <;> first | (cases hrecv; done) | exact ⟨_, rfl⟩
    · obtain ⟨xs, rfl⟩ := hl
      obtain ⟨p, vs, rfl, l, z, rr⟩ := Sh.lst r1
      refine ⟨.inl ⟨rfl, vs, l.sq⟩, as1, F1, M1, ρ, bi.step s1 m1, (OutG.bind (R := RP X.K) h1).imp fun w H2 ⟨as2, F2, M2, d2, s2, m2, r2, h2⟩ => ?_⟩
      have h2 : OutG X.K cls (RP X.K) (W σ) (lift (if d2.nobj && nobjs xs && decide (d2.dep ≤ 60) && decide (deps xs ≤ 60) then (ixDs d2 xs).map fun (j : Nat) => D.int j else none) M2) as2 F2 H2 Q := h2
      split at h2
      · rename_i ok
        simp only [Bool.and_eq_true, decide_eq_true_eq] at ok
        cases e1 : ixDs d2 xs with
        | none => rw [e1] at h2; exact h2.elim
        | some j =>
          rw [e1] at h2
          obtain ⟨zz, g1, g2, g3⟩ := ixDs_spec e1
          obtain ⟨dd, dc⟩ := (Sh.step s2 r1).dp (by simpa [D.nobj] using ok.1.1.2)
          obtain ⟨ee, ec⟩ := r2.dp ok.1.1.1
          have nz : zz.nobj = true := by
            have : ∀ {ys : List D} {z : D}, nobjs ys = true → z ∈ ys → z.nobj = true := by
              intro ys
              induction ys with
              | nil => intro z _ hz; cases hz
              | cons a ys ih =>
                intro z h hz
                simp only [nobjs, Bool.and_eq_true] at h
                rcases List.mem_cons.mp hz with rfl | hz
                · exact h.1
                · exact ih h.2 hz
            exact this ok.1.1.2 (List.mem_of_getElem? g1)
          have nobj_mem : ∀ {ys : List D} {z : D}, nobjs ys = true → z ∈ ys → z.nobj = true := by
            intro ys
            induction ys with
            | nil => intro z _ hz; cases hz
            | cons a ys ih =>
              intro z h hz
              simp only [nobjs, Bool.and_eq_true] at h
              rcases List.mem_cons.mp hz with rfl | hz
              · exact h.1
              · exact ih h.2 hz
          refine ⟨p, w, toPy d2, toPys xs, j, toPy zz, rfl, rfl, by simpa [toPy] using dd, ee, ?_, ?_, ?_, ?_, ?_, h2.now m2 (.int _)⟩
          · unfold SeqAt.shaped
            have e3 : (PyData.list (toPys xs)).depth = deps xs + 1 := by rw [← deps_py]; simp [PyData.depth]
            rw [e3]
            simp only [Bool.and_eq_true, decide_eq_true_eq]
            exact ⟨by simpa [toPy] using dc, by omega⟩
          · unfold SeqAt.shaped
            rw [dep_py]
            simp only [Bool.and_eq_true, decide_eq_true_eq]
            exact ⟨ec, by omega⟩
          · rw [toPys_map, List.getElem?_map, g1]; rfl
          · rw [eqv_py _ _ nz ok.1.1.1]; exact g2
          · intro m z' hm hz
            rw [toPys_map, List.getElem?_map] at hz
            cases e4 : xs[m]? with
            | none => rw [e4] at hz; cases hz
            | some w' =>
              rw [e4] at hz
              cases hz
              rw [eqv_py _ _ (nobj_mem ok.1.1.2 (List.mem_of_getElem? e4)) ok.1.1.1]
              exact g3 m w' hm e4
      · exact h2.elim
end
end Ev

set_option maxRecDepth 100000
set_option maxHeartbeats 8000000
/-! Ev14: every expression. -/
namespace Ev
open PySem PySem.Spec PyProof.Rows L2

section
variable {cls : Nat → Addr} {T : Txt} {C : Ctx} {k : Nat} {as0 : List Addr} {F0 : Addr → Prop} {H0 : Hp}

/-- a value that asks nothing -/
theorem rd.const {X : Cx} {W : L2.St → XW} {d : D} {v : V} {σ : L2.St} {H : Hp} {Q : VK} (q : rd X.K cls as0 F0 H0 W (RP X.K) (fun _ M => .ok d M) σ H Q) (r : ∀ as F H, Rp X.K F as H d v) : Q v H := by
  obtain ⟨as, F, M, ρ, bi, q⟩ := q
  exact OutG.now (a := d) (v := v) (M := M) q bi.mem (r _ _ _)
def isTF : E → Bool
  | .not _ => true | .and _ => true | .or _ => true | .ite _ _ _ => true | .cmp _ _ _ => true | .cmp2 _ _ _ _ _ => true
  | _ => false
theorem not_testform {N : List Str} {sc : Scope} {e : E} {a : Expr} (h : (borB N sc e a || chkE T N sc e a) = true) (he : isTF e = false) :
    isTestForm a = false := by
  cases a <;> first | rfl | skip
  · cases e <;> first | (cases he; done) | (simp [borB, chkE, varB] at h; done)
  · rename_i op x p
    cases op <;> first | rfl | skip
    cases e <;> first | (cases he; done) | (simp [borB, chkE, varB] at h; done)
  · cases e <;> first | (cases he; done) | (simp [borB, chkE, varB] at h; done)
  · cases e <;> first | (cases he; done) | (simp [borB, chkE, varB] at h; done)
theorem pt_ite {X : Cx} {c x y : Expr} {p : Pos} {tc ta tb : TT} (hc : PT X c tc) (ha : PT X x ta) (hb : PT X y tb) : PT X (.IfExp c x y p) (fun σ H Q => tc σ H fun k H1 => if k = true then ta σ H1 Q else tb σ H1 Q) := by
  refine ⟨fun pins s σ H Q I q => ?_⟩
  show wpAny _ _ (do if ← isTrue c X.env (eval c X.env) then isTrue x X.env (eval x X.env) else isTrue y X.env (eval y X.env)) _ _ _
  refine wpAny_bind (thn (hc.run pins s σ H _ I q) fun k s1 ⟨H1, I1, q1⟩ => ?_)
  cases k with
  | true => exact ha.run pins s1 σ H1 Q I1 q1
  | false => exact hb.run pins s1 σ H1 Q I1 q1
theorem tst_ite {c x y : E} : tst false (ev C (.ite c x y)) = fun ρ M => (tst false (ev C c) ρ M).bind fun k M => if k then tst false (ev C x) ρ M else tst false (ev C y) ρ M := by
  funext ρ M
  show ((ev C c ρ M).bind fun z M => (lift (z.tru M) M).bind fun k M => if k then ev C x ρ M else ev C y ρ M).bind (fun x M => lift (x.tru M) M) = ((ev C c ρ M).bind fun z M => lift (z.tru M) M).bind fun k M => if k then (ev C x ρ M).bind (fun x M => lift (x.tru M) M) else (ev C y ρ M).bind (fun x M => lift (x.tru M) M)
  cases ev C c ρ M with
  | ok z M1 =>
    simp only [Res.bind]
    cases z.tru M1 with
    | none => rfl
    | some k => cases k <;> rfl
  | exc _ _ _ => rfl
  | bad => rfl
theorem tst_cmp {op : Cop} {a b : E} : tst false (ev C (.cmp op a b)) = fun ρ M => (ev C a ρ M).bind fun x M => (ev C b ρ M).bind fun y M => lift (cmpQ M op x y) M := by
  funext ρ M
  show ((ev C a ρ M).bind fun x M => (ev C b ρ M).bind fun y M => (lift (cmpQ M op x y) M).bind fun k M => .ok (D.bl k) M).bind (fun x M => lift (x.tru M) M) = _
  cases ev C a ρ M with
  | ok x M1 =>
    simp only [Res.bind]
    cases ev C b ρ M1 with
    | ok y M2 =>
      simp only [Res.bind]
      cases cmpQ M2 op x y <;> rfl
    | exc _ _ _ => rfl
    | bad => rfl
  | exc _ _ _ => rfl
  | bad => rfl

theorem plain_of {env : PySem.Env} : ∀ {xs : List Expr}, (∀ x ∈ xs, isStar x = false) → ∀ pos, (backTo pos (starEach xs env)).any (·.1) = false
  | [], _, _ => rfl
  | x :: xs, h, pos => pl_cons (h x List.mem_cons_self) (plain_of (fun y hy => h y (List.mem_cons_of_mem _ hy)) pos)
theorem ptO {X : Cx} {W : L2.St → XW} {c : E} {a : Expr} (h : (borB X.N X.env.scope c a || chkE T X.N X.env.scope c a) = true) (hE : ∀ {a}, chkE T X.N X.env.scope c a = true → PE X a (rd X.K cls as0 F0 H0 W (RP X.K) (ev C c)))
    (hT : isTF c = true → ∀ a, chkE T X.N X.env.scope c a = true → PT X a (rd X.K cls as0 F0 H0 W RB (tst false (ev C c)))) : PT X a (rd X.K cls as0 F0 H0 W RB (tst false (ev C c))) := by
  cases q : isTF c with
  | false => exact pt_of (snd_o h fun h => hE h) (not_testform h q)
  | true =>
    refine hT q a ?_
    rcases Bool.or_eq_true_iff.mp h with h | h
    · cases c <;> first | (cases q; done) | (simp [borB] at h; done)
    · exact h
theorem pts_of {X : Cx} {W : L2.St → XW} {c : E} {ifs : List Expr} (h : ifsB c.isNil (fun y => borB X.N X.env.scope c y || chkE T X.N X.env.scope c y) ifs = true)
    (hT : ∀ y, (borB X.N X.env.scope c y || chkE T X.N X.env.scope c y) = true → PT X y (rd X.K cls as0 F0 H0 W RB (tst false (ev C c)))) : PTs X ifs (rd X.K cls as0 F0 H0 W RB (tst c.isNil (ev C c))) := by
  match ifs, h with
  | [], h =>
    have h : c.isNil = true := h
    rw [h]
    refine ⟨fun pins s σ H Q I q => pts_nil.run pins s σ H Q I ?_⟩
    obtain ⟨as, F, M, ρ, bi, q⟩ := q
    exact OutG.now (a := true) (v := true) (M := M) q bi.mem rfl
  | [y], h =>
    simp only [ifsB, Bool.and_eq_true, Bool.not_eq_true'] at h
    rw [h.1]
    exact pts_one (hT y h.2)
theorem chain_red {X : Cx} {W : L2.St → XW} {o1 o2 : Cop} {x y z : E} {σ : L2.St} {H : Hp} {Q : VK} (q : rd X.K cls as0 F0 H0 W (RP X.K) (ev C (.cmp2 o1 o2 x y z)) σ H Q) :
    tChain (rCmp X.K cls o1) (rCmp X.K cls o2) (rd X.K cls as0 F0 H0 W (RP X.K) (ev C x)) (rd X.K cls as0 F0 H0 W (RP X.K) (ev C y)) (rd X.K cls as0 F0 H0 W (RP X.K) (ev C z)) σ H Q := by
  refine (rd.bind (R := RP X.K) (f := ev C x) (g := fun x ρ M => (ev C y ρ M).bind fun y M => (lift (cmpQ M o1 x y) M).bind fun k M =>
    if k then (ev C z ρ M).bind fun z M => (lift (cmpQ M o2 y z) M).bind fun k M => .ok (D.bl k) M else .ok (D.bl false) M) q).imp fun v H1 ⟨as, F, M, ρ, d, bi, r, h⟩ => ?_
  refine ⟨as, F, M, ρ, bi, (OutG.bind (R := RP X.K) h).imp fun u H2 ⟨as2, F2, M2, d2, s2, m2, r2, h2⟩ => ?_⟩
  obtain ⟨kk, e, h2⟩ := h2.lift_bind
  refine ⟨as2, F2, M2, d, d2, kk, m2, .rp (Rp.step s2 r), .rp r2, e, kk, rfl, ?_⟩
  cases kk with
  | false => exact OutG.now (a := D.bl false) (M := M2) h2 m2 (.bl _)
  | true =>
    refine ⟨as2, F2, M2, ρ, bi.step s2 m2, (OutG.bind (R := RP X.K) h2).imp fun w H3 ⟨as3, F3, M3, d3, s3, m3, r3, h3⟩ => ?_⟩
    obtain ⟨k3, e3, h3⟩ := h3.lift_bind
    exact ⟨as3, F3, M3, d2, d3, k3, m3, .rp (Rp.step s3 r2), .rp r3, e3, OutG.now (a := D.bl k3) (M := M3) h3 m3 (.bl _)⟩
theorem tst_cmp2 {o1 o2 : Cop} {x y z : E} : tst false (ev C (.cmp2 o1 o2 x y z)) = fun ρ M => (ev C x ρ M).bind fun x M => (ev C y ρ M).bind fun y M => (lift (cmpQ M o1 x y) M).bind fun k M =>
    if k then (ev C z ρ M).bind fun z M => lift (cmpQ M o2 y z) M else .ok false M := by
  funext ρ M
  show ((ev C x ρ M).bind fun x M => (ev C y ρ M).bind fun y M => (lift (cmpQ M o1 x y) M).bind fun k M =>
    if k then (ev C z ρ M).bind fun z M => (lift (cmpQ M o2 y z) M).bind fun k M => .ok (D.bl k) M else .ok (.bl false) M).bind (fun x M => lift (x.tru M) M) = _
  cases ev C x ρ M with
  | ok d M1 =>
    simp only [Res.bind]
    cases ev C y ρ M1 with
    | ok d2 M2 =>
      simp only [Res.bind]
      cases cmpQ M2 o1 d d2 with
      | none => rfl
      | some k =>
        cases k with
        | false => rfl
        | true =>
          simp only [lift, Res.bind, if_true]
          cases ev C z ρ M2 with
          | ok d3 M3 =>
            simp only [Res.bind]
            cases cmpQ M3 o2 d2 d3 <;> rfl
          | exc _ _ _ => rfl
          | bad => rfl
    | exc _ _ _ => rfl
    | bad => rfl
  | exc _ _ _ => rfl
  | bad => rfl
theorem chain_redT {X : Cx} {W : L2.St → XW} {o1 o2 : Cop} {x y z : E} {σ : L2.St} {H : Hp} {Q : Bool → Hp → Prop} (q : rd X.K cls as0 F0 H0 W RB (tst false (ev C (.cmp2 o1 o2 x y z))) σ H Q) :
    tTest (tChain (rCmp X.K cls o1) (rCmp X.K cls o2) (rd X.K cls as0 F0 H0 W (RP X.K) (ev C x)) (rd X.K cls as0 F0 H0 W (RP X.K) (ev C y)) (rd X.K cls as0 F0 H0 W (RP X.K) (ev C z))) σ H Q := by
  rw [tst_cmp2] at q
  refine (rd.bind (R := RP X.K) (f := ev C x) (g := fun x ρ M => (ev C y ρ M).bind fun y M => (lift (cmpQ M o1 x y) M).bind fun k M =>
    if k then (ev C z ρ M).bind fun z M => lift (cmpQ M o2 y z) M else .ok false M) q).imp fun v H1 ⟨as, F, M, ρ, d, bi, r, h⟩ => ?_
  refine ⟨as, F, M, ρ, bi, (OutG.bind (R := RP X.K) h).imp fun u H2 ⟨as2, F2, M2, d2, s2, m2, r2, h2⟩ => ?_⟩
  obtain ⟨kk, e, h2⟩ := h2.lift_bind
  refine ⟨as2, F2, M2, d, d2, kk, m2, .rp (Rp.step s2 r), .rp r2, e, kk, rfl, ?_⟩
  cases kk with
  | false => exact ⟨false, rfl, OutG.now (a := false) (v := false) (M := M2) h2 m2 rfl⟩
  | true =>
    refine ⟨as2, F2, M2, ρ, bi.step s2 m2, (OutG.bind (R := RP X.K) h2).imp fun w H3 ⟨as3, F3, M3, d3, s3, m3, r3, h3⟩ => ?_⟩
    obtain ⟨k3, e3, h3⟩ := h3.lift
    exact ⟨as3, F3, M3, d2, d3, k3, m3, .rp (Rp.step s3 r2), .rp r3, e3, k3, rfl, h3.now m3 rfl⟩
theorem slc_red {X : Cx} {W : L2.St → XW} {N : List Str} {sc : Scope} {x lo hi : E} {l u : Option Expr} {σ : L2.St} {H : Hp} {Q : VK} (h2 : bndB lo.isNon (fun l => chkE T N sc lo l) l = true)
    (h3 : bndB hi.isNon (fun l => chkE T N sc hi l) u = true) (q : rd X.K cls as0 F0 H0 W (RP X.K) (ev C (.slc x lo hi)) σ H Q) :
    tSl (rSlQ X.K cls W0) (rd X.K cls as0 F0 H0 W (RS X.K) (ev C x)) (fun σ H Q => rd X.K cls as0 F0 H0 W (RP X.K) (ev C lo) σ H fun x H1 => (x = .non ∧ l = none ∧ Q none H1) ∨ ∃ i, x = .int i ∧ l.isSome = true ∧ Q (some i) H1)
      (fun σ H Q => rd X.K cls as0 F0 H0 W (RP X.K) (ev C hi) σ H fun x H1 => (x = .non ∧ u = none ∧ Q none H1) ∨ ∃ i, x = .int i ∧ u.isSome = true ∧ Q (some i) H1) σ H Q := by
  refine (rd.bind (R := RS X.K) (f := ev C x) (g := fun x ρ M => (ev C lo ρ M).bind fun l M => (lift (boundQ lo.isNon l) M).bind fun l M =>
    (ev C hi ρ M).bind fun h M => (lift (boundQ hi.isNon h) M).bind fun h M => lift (slcQ l h x) M) q).imp fun v H1 ⟨as, F, M, ρ, d, bi, r, h⟩ => ?_
  refine ⟨as, F, M, ρ, bi, (OutG.bind (R := RP X.K) h).imp fun v2 H2 ⟨as2, F2, M2, dl, s2, m2, r2, h⟩ => ?_⟩
  obtain ⟨ol, hol, h⟩ := h.lift_bind
  have fin : ∀ {o : Option Int}, o = ol → rd X.K cls as0 F0 H0 W (RP X.K) (ev C hi) σ H2 (fun x H1 => (x = .non ∧ u = none ∧ rSlQ X.K cls W0 v o none H1 Q) ∨ ∃ i, x = .int i ∧ u.isSome = true ∧ rSlQ X.K cls W0 v o (some i) H1 Q) := by
    rintro _ rfl
    refine ⟨as2, F2, M2, ρ, bi.step s2 m2, (OutG.bind (R := RP X.K) h).imp fun v3 H3 ⟨as3, F3, M3, dh, s3, m3, r3, h⟩ => ?_⟩
    obtain ⟨oh, hoh, h⟩ := h.lift_bind
    rcases bound_of h3 r3 hoh with ⟨e1, e2, rfl⟩ | ⟨i, e1, e2, rfl⟩
    · exact .inl ⟨e1, e2, as3, F3, M3, d, m3, Sh.step s3 (Sh.step s2 r), h.liftW⟩
    · exact .inr ⟨i, e1, e2, as3, F3, M3, d, m3, Sh.step s3 (Sh.step s2 r), h.liftW⟩
  rcases bound_of h2 r2 hol with ⟨e1, e2, e3⟩ | ⟨i, e1, e2, e3⟩
  · exact .inl ⟨e1, e2, fin e3.symm⟩
  · exact .inr ⟨i, e1, e2, fin e3.symm⟩

mutual
theorem sndE : ∀ (e : E) {X : Cx} {W : L2.St → XW} {a : Expr}, Good X cls T C k W → chkE T X.N X.env.scope e a = true → PE X a (rd X.K cls as0 F0 H0 W (RP X.K) (ev C e))
  | .var i, X, W, a, G, h => snd_var h
  | .bor i, X, W, a, G, h => by simp [chkE] at h
  | .nil, X, W, a, G, h => by simp [chkE] at h
  | .cons _ _, X, W, a, G, h => by simp [chkE] at h
  | .star _ _, X, W, a, G, h => by simp [chkE] at h
  | .itV _, X, W, a, G, h => by simp [chkE] at h
  | .itRange _, X, W, a, G, h => by simp [chkE] at h
  | .itEnum _, X, W, a, G, h => by simp [chkE] at h
  | .itZip _ _, X, W, a, G, h => by simp [chkE] at h
  | .itRev _, X, W, a, G, h => by simp [chkE] at h
  | .comp2 _ _ _ _ _ _ _ _ _, X, W, a, G, h => by simp [chkE] at h
  | .non, X, W, a, G, h => by
    cases a with
    | Constant c _ _ =>
      cases c with
      | none => exact pe_non.imp fun σ H Q q => q.const fun _ _ _ => .non
      | _ => simp [chkE] at h
    | _ => simp [chkE] at h
  | .bl b, X, W, a, G, h => by
    cases a with
    | Constant c _ _ =>
      cases c with
      | bool b' =>
        simp only [chkE, beq_iff_eq] at h
        subst h
        exact pe_bl.imp fun σ H Q q => q.const fun _ _ _ => .bl _
      | _ => simp [chkE] at h
    | _ => simp [chkE] at h
  | .int i, X, W, a, G, h => by
    cases a with
    | Constant c _ _ =>
      cases c with
      | int b' =>
        simp only [chkE, beq_iff_eq] at h
        subst h
        exact pe_int.imp fun σ H Q q => q.const fun _ _ _ => .int _
      | _ => simp [chkE] at h
    | _ => simp [chkE] at h
  | .str cs, X, W, a, G, h => by
    cases a with
    | Constant c _ _ =>
      cases c with
      | str x =>
        simp only [chkE, Bool.and_eq_true, beq_iff_eq, decide_eq_true_eq] at h
        obtain ⟨⟨h1, h2⟩, h3⟩ := h
        have ex : x = ⟨cs.toArray⟩ := by
          rw [← h1]
        subst ex
        exact pe_str.imp fun σ H Q q => q.const fun _ _ _ => .str h2 (by rw [← big_line]; exact h3)
      | _ => simp [chkE] at h
    | _ => simp [chkE] at h
  | .glo g, X, W, a, G, h => by
    cases a with
    | Name x p =>
      simp only [chkE, Bool.and_eq_true, beq_iff_eq] at h
      obtain ⟨⟨h1, h2⟩, h3⟩ := h
      obtain ⟨n1, n2, n3⟩ := nameOk_of h3
      cases hd : C.con g with
      | some d =>
        obtain ⟨u, v, hm, r, rp⟩ := G.con g x d h1 hd
        refine (pe_glob (gl_of h2) hm r n1).imp fun σ H Q q => ?_
        have e : ev C (.glo g) = fun _ M => lift (C.con g) M := rfl
        rw [e, hd] at q
        exact q.const fun as F H => rp F as H
      | none =>
        refine ⟨fun pins s σ H Q I q => ?_⟩
        obtain ⟨as, F, M, ρ, bi, q⟩ := q
        replace q : OutG X.K cls (RP X.K) (W σ) (lift (C.con g) M) as F H Q := q
        rw [hd] at q
        exact q.elim
    | _ => simp [chkE] at h
  | .tup es, X, W, a, G, h => by
    cases a with
    | Tuple xs kk p => exact snd_tup (sndA es G (by simpa only [chkE] using h)).1
    | _ => simp [chkE] at h
  | .lst es, X, W, a, G, h => by
    cases a with
    | List xs p => exact snd_lst (sndA es G (by simpa only [chkE] using h)).1
    | _ => simp [chkE] at h
  | .bin op x y, X, W, a, G, h => by
    cases a with
    | BinOp x' o y' p =>
      simp only [chkE, Bool.and_eq_true, beq_iff_eq] at h
      obtain ⟨⟨h1, h2⟩, h3⟩ := h
      subst h1
      have hu : X.A.units + 200 < cLine := by have := G.room.un; omega
      refine (pe_op (op := opOf op) (opr_bin (cls := cls) (W := W0) hu op) (snd_o h2 (sndE x G)) (snd_o h3 (sndE y G))).imp fun σ H Q q => ?_
      exact (rd.bind2 (f := ev C x) (g := ev C y) (h := fun x y M => lift (binQ op x y) M) q).imp fun v H1 q1 => q1.imp fun u H2 ⟨as, F, M, d1, d2, m, r1, r2, h⟩ => ⟨as, F, M, d1, d2, m, r1, r2, h.liftW⟩
    | _ => simp [chkE] at h
  | .cmp op x y, X, W, a, G, h => by
    cases a with
    | Compare x' ops ys p =>
      match ops, ys, h with
      | [o], [y'], h =>
        simp only [chkE, Bool.and_eq_true, beq_iff_eq, Bool.not_eq_true'] at h
        obtain ⟨⟨⟨h1, h4⟩, h2⟩, h3⟩ := h
        subst h1
        have hu : X.A.units + 200 < cLine := by have := G.room.un; omega
        refine (pe_cmpR (opr_cmp (cls := cls) hu op) (snd_o h2 (sndE x G)) (snd_o h3 (sndE y G)) (mark_of h4)).imp fun σ H Q q => ?_
        refine (rd.bind2 (f := ev C x) (g := ev C y) (h := fun x y M => (lift (cmpQ M op x y) M).bind fun k M => .ok (D.bl k) M) q).imp fun v H1 q1 => q1.imp fun u H2 ⟨as, F, M, d1, d2, m, r1, r2, h⟩ => ?_
        obtain ⟨kk, e, h⟩ := h.lift_bind
        exact ⟨as, F, M, d1, d2, kk, m, r1, r2, e, h.now m (.bl _)⟩
      | [], _, h => simp [chkE] at h
      | [_], [], h => simp [chkE] at h
      | [_], _ :: _ :: _, h => simp [chkE] at h
      | _ :: _ :: _, _, h => simp [chkE] at h
    | _ => simp [chkE] at h
  | .cmp2 o1 o2 x y z, X, W, a, G, h => by
    cases a with
    | Compare x' ops ys p =>
      match ops, ys, h with
      | [p1, p2], [y', z'], h =>
        simp only [chkE, Bool.and_eq_true, beq_iff_eq, Bool.not_eq_true'] at h
        obtain ⟨⟨⟨⟨⟨⟨h1, h2⟩, h3⟩, h4⟩, h5⟩, h6⟩, h7⟩ := h
        subst h1 h2
        have hu : X.A.units + 200 < cLine := by have := G.room.un; omega
        refine (pe_chain (opr_cmp (cls := cls) hu o1) (opr_cmp (cls := cls) hu o2) (sndE x G h5) (sndE y G h6) (sndE z G h7) (lastMarks_of h3 h4)).imp fun σ H Q q => ?_
        exact chain_red q
      | [], _, h => simp [chkE] at h
      | [_], _, h => simp [chkE] at h
      | [_, _], [], h => simp [chkE] at h
      | [_, _], [_], h => simp [chkE] at h
      | [_, _], _ :: _ :: _ :: _, h => simp [chkE] at h
      | _ :: _ :: _ :: _, _, h => simp [chkE] at h
    | _ => simp [chkE] at h
  | .and es, X, W, a, G, h => by
    cases a with
    | BoolOp op xs p =>
      cases op with
      | And => exact sndAnd es G (by simpa only [chkE] using h)
      | Or => simp [chkE] at h
    | _ => simp [chkE] at h
  | .or es, X, W, a, G, h => by
    cases a with
    | BoolOp op xs p =>
      cases op with
      | Or => exact sndOr es G (by simpa only [chkE] using h)
      | And => simp [chkE] at h
    | _ => simp [chkE] at h
  | .not x, X, W, a, G, h => by
    cases a with
    | UnaryOp op x' p =>
      cases op with
      | Not =>
        simp only [chkE] at h
        refine (pe_notT (snd_o h (sndE x G))).imp fun σ H Q q => ?_
        refine (rd.bind1 (R := RS X.K) (f := ev C x) (h := fun x M => (lift (x.tru M) M).bind fun k M => .ok (D.bl (!k)) M) q).imp fun v H1 ⟨as, F, M, d, m, r, h⟩ => ?_
        obtain ⟨kk, e, h⟩ := h.lift_bind
        exact ⟨kk, tru_sh m r e, h.now m (.bl _)⟩
      | _ => simp [chkE] at h
    | _ => simp [chkE] at h
  | .neg x, X, W, a, G, h => by
    cases a with
    | UnaryOp op x' p =>
      cases op with
      | USub =>
        simp only [chkE] at h
        refine (pe_un un_neg (sndE x G h)).imp fun σ H Q q => ?_
        refine (rd.bind1 (R := RP X.K) (f := ev C x) (h := fun x M => match x with | D.int i => .ok (D.int (-i)) M | _ => .bad) q).imp fun v H1 ⟨as, F, M, d, m, r, h⟩ => ?_
        cases r <;> first | exact h.elim | skip
        exact ⟨_, rfl, OutG.now (a := D.int _) (M := M) h m (.int _)⟩
      | _ => simp [chkE] at h
    | _ => simp [chkE] at h
  | .ite c x y, X, W, a, G, h => by
    cases a with
    | IfExp c' x' y' p =>
      simp only [chkE, Bool.and_eq_true] at h
      obtain ⟨⟨h1, h2⟩, h3⟩ := h
      refine (pe_ifExp (ptO h1 (fun h => sndE c G h) (fun t _ h => sndTF c t G h)) (sndE x G h2) (sndE y G h3)).imp fun σ H Q q => ?_
      have e : ev C (.ite c x y) = fun ρ M => (tst false (ev C c) ρ M).bind fun k M => if k then ev C x ρ M else ev C y ρ M := by
        funext ρ M
        show ((ev C c ρ M).bind fun z M => (lift (z.tru M) M).bind fun k M => if k then ev C x ρ M else ev C y ρ M) = ((ev C c ρ M).bind fun z M => lift (z.tru M) M).bind fun k M => if k then ev C x ρ M else ev C y ρ M
        cases ev C c ρ M <;> rfl
      rw [e] at q
      refine (rd.bind (R := RB) (f := tst false (ev C c)) (g := fun k ρ M => if k then ev C x ρ M else ev C y ρ M) q).imp fun v H1 ⟨as, F, M, ρ, d, bi, r, h⟩ => ?_
      have r : d = v := r
      subst r
      cases d with
      | true => exact ⟨as, F, M, ρ, bi, h⟩
      | false => exact ⟨as, F, M, ρ, bi, h⟩
    | _ => simp [chkE] at h
  | .idx x i, X, W, a, G, h => by
    cases a with
    | Subscript x' i' p =>
      simp only [chkE, Bool.and_eq_true, Bool.not_eq_true'] at h
      obtain ⟨⟨h1, h2⟩, h3⟩ := h
      refine (pe_ix (ixr (cls := cls) (W := W0)) (snd_o h2 (sndE x G)) (sndE i G h3) (plain_sub h1)).imp fun σ H Q q => ?_
      have q2 := rd.bind2 (f := ev C x) (g := ev C i) (h := fun x y M => lift (idxQ x y) M) q
      refine q2.imp fun v H1 q1 => ?_
      obtain ⟨as, F, M, ρ, bi, q1⟩ := q1
      refine ⟨as, F, M, ρ, bi, ?_⟩
      cases e : ev C i ρ M with
      | ok d M' =>
        rw [e] at q1
        intro as' F' u H2 s m r
        obtain ⟨as2, F2, M2, d1, d2, m2, r1, r2, h⟩ := q1 as' F' u H2 s m (.rp r)
        exact ⟨as2, F2, M2, d1, d2, m2, r1, r2, h.liftW⟩
      | exc c d M' => rw [e] at q1; exact q1
      | bad => rw [e] at q1; exact q1
    | _ => simp [chkE] at h
  | .slc x lo hi, X, W, a, G, h => by
    cases a with
    | Subscript x' sl p =>
      cases sl with
      | Slice l u st p2 =>
        cases st with
        | none =>
          simp only [chkE, Bool.and_eq_true] at h
          obtain ⟨⟨h1, h2⟩, h3⟩ := h
          refine (pe_slice (slr (cls := cls) (W := W0)) (snd_o h1 (sndE x G)) (snd_po h2 fun l hl => sndE lo G hl) (snd_po h3 fun l hl => sndE hi G hl)).imp fun σ H Q q => ?_
          exact slc_red h2 h3 q
        | some _ => simp [chkE] at h
      | _ => simp [chkE] at h
    | _ => simp [chkE] at h
  | .call f es, X, W, a, G, h => by
    cases a with
    | Call fn xs kw p =>
      cases fn with
      | Name x p' =>
        cases kw with
        | nil =>
          simp only [chkE, Bool.and_eq_true, beq_iff_eq] at h
          obtain ⟨⟨⟨⟨h1, h2⟩, h3⟩, h4⟩, h5⟩ := h
          obtain ⟨pa, pl⟩ := sndA es G h5
          exact snd_call G h1 h2 h3 h4 h5 pa pl
        | cons _ _ => simp [chkE] at h
      | _ => simp [chkE] at h
    | _ => simp [chkE] at h
  | .bi b es, X, W, a, G, h => by
    cases a with
    | Call fn xs kw p =>
      cases fn with
      | Name x p' =>
        cases kw with
        | nil =>
          simp only [chkE, Bool.and_eq_true, beq_iff_eq] at h
          obtain ⟨⟨⟨h1, h2⟩, h4⟩, h3⟩ := h
          subst h1
          cases xs with
          | nil => cases h4
          | cons y ys =>
            obtain ⟨pa, pl⟩ := sndO es G h3
            have hy := pl y List.mem_cons_self
            exact snd_bi G h2 pa hy (plain_of fun z hz => pl z (List.mem_cons_of_mem _ hz))
        | cons _ _ => simp [chkE] at h
      | _ => simp [chkE] at h
    | _ => simp [chkE] at h
  | .isi ty e, X, W, a, G, h => by
    cases a with
    | Call fn xs kw p =>
      cases fn with
      | Name x p' =>
        cases kw with
        | nil =>
          match xs, h with
          | [y, z], h =>
            simp only [chkE, Bool.and_eq_true, beq_iff_eq, Bool.not_eq_true'] at h
            obtain ⟨⟨⟨⟨h1, h2⟩, h3⟩, h4⟩, h5⟩ := h
            subst h1
            exact snd_isi G h2 (snd_o h5 (sndE e G)) h4 h3
          | [], h => simp [chkE] at h
          | [_], h => simp [chkE] at h
          | _ :: _ :: _ :: _, h => simp [chkE] at h
        | cons _ _ => simp [chkE] at h
      | _ => simp [chkE] at h
    | _ => simp [chkE] at h
  | .bm m o es, X, W, a, G, h => by
    cases m <;> first | (simp [chkE] at h; done) | skip
    match es, h with
    | .cons e .nil, h =>
      cases a with
      | Call fn xs kw p =>
        cases fn with
        | Attribute x mm p1 =>
          cases kw with
          | nil =>
            match xs, h with
            | [y], h =>
              simp only [chkE, Bool.and_eq_true, beq_iff_eq, Bool.not_eq_true'] at h
              obtain ⟨⟨⟨⟨⟨h1, h2⟩, h3⟩, h4⟩, h5⟩, h6⟩ := h
              subst h1
              exact snd_index G (by simpa using h2) h3 h4 (snd_o h5 (sndE o G)) (sndE e G h6)
            | [], h => simp [chkE] at h
            | _ :: _ :: _, h => simp [chkE] at h
          | cons _ _ => simp [chkE] at h
        | _ => simp [chkE] at h
      | _ => simp [chkE] at h
  | .comp vs t it c e, X, W, a, G, h => by
    cases a with
    | ListComp elt gs scope p =>
      match gs, h with
      | [⟨tg, iter, ifs, n⟩], h =>
        by_cases hn : n = 0
        · subst hn
          simp only [chkE, Bool.and_eq_true, decide_eq_true_eq] at h
          obtain ⟨⟨⟨⟨⟨⟨h1, h2⟩, h3⟩, h4⟩, h5⟩, h6⟩, h7⟩ := h
          have ok := blkOk_by h1
          obtain ⟨hi, hset⟩ := sndI it G (tg := tg) h4
          have key := pe_lc (X := X) (pos := p) (elt := elt) (g := gTg X.K t) (te := rd X.K cls as0 F0 H0 (fun _ => W0) (RP X.K) (ev C e)) (own := ownOfVs X.N vs) G.calm G.nd hi ok
            (fun s H c cl fp => pg_tg (X := X.blk s H scope (compEnvC scope cl c X.env) fp) G.nd G.calm stores_blk h5)
            (tt := rd X.K cls as0 F0 H0 (fun _ => W0) RB (tst c.isNil (ev C c)))
            (fun s H c' cl fp => pts_of (X := X.blk s H scope (compEnvC scope cl c' X.env) fp) h6 fun y hy => ptO hy (fun h => sndE c (G.blk s H scope (compEnvC scope cl c' X.env) fp) h) (fun t _ h => sndTF c t (G.blk s H scope (compEnvC scope cl c' X.env) fp) h))
            (fun s H c' cl fp => sndE e (G.blk s H scope (compEnvC scope cl c' X.env) fp) h7)
            (folded_of hset)
          rw [ownOfVs_snd] at key
          exact key.imp fun σ H Q q => comp_red h2 q
        · simp [chkE, hn] at h
      | [], h => simp [chkE] at h
      | _ :: _ :: _, h => simp [chkE] at h
    | _ => simp [chkE] at h
/-- arguments -/
theorem sndA : ∀ (e : E) {X : Cx} {W : L2.St → XW} {xs : List Expr}, Good X cls T C k W → chkA T X.N X.env.scope e xs = true → PA X xs (rd X.K cls as0 F0 H0 W (RPs X.K) (evs C e)) ∧ ∀ pos, (backTo pos (starEach xs X.env)).any (·.1) = false
  | .nil, X, W, xs, G, h => by
    cases xs with
    | nil =>
      refine ⟨pa_nil.imp fun σ H Q q => ?_, fun _ => rfl⟩
      obtain ⟨as, F, M, ρ, bi, q⟩ := q
      exact OutG.now (a := ([] : List D)) (v := ([] : List V)) (M := M) q bi.mem .nil
    | cons x xs => simp [chkA] at h
  | .cons e r, X, W, xs, G, h => by
    cases xs with
    | nil => simp [chkA] at h
    | cons x xs =>
      simp only [chkA, Bool.and_eq_true, Bool.not_eq_true'] at h
      obtain ⟨⟨h1, h2⟩, h3⟩ := h
      obtain ⟨pr, pl⟩ := sndA r G h3
      refine ⟨(pa_cons (sndE e G h2) pr (starEach_ne h1)).imp fun σ H Q q => ?_, fun pos => pl_cons h1 (pl pos)⟩
      refine (rd.bind (R := RP X.K) (f := ev C e) (g := fun x ρ M => (evs C r ρ M).bind fun xs M => .ok (x :: xs) M) q).imp fun v H1 ⟨as, F, M, ρ, d, bi, r1, h1⟩ => ?_
      refine ⟨as, F, M, ρ, bi, (OutG.bind (R := RPs X.K) h1).imp fun vs H2 ⟨as2, F2, M2, ds, s2, m2, r2, h2⟩ => ?_⟩
      exact OutG.now (a := d :: ds) (v := v :: vs) (M := M2) h2 m2 (.cons (Rp.step s2 r1) r2)
  | .var _, X, W, xs, G, h => by simp [chkA] at h
  | .bor _, X, W, xs, G, h => by simp [chkA] at h
  | .non, X, W, xs, G, h => by simp [chkA] at h
  | .bl _, X, W, xs, G, h => by simp [chkA] at h
  | .int _, X, W, xs, G, h => by simp [chkA] at h
  | .str _, X, W, xs, G, h => by simp [chkA] at h
  | .glo _, X, W, xs, G, h => by simp [chkA] at h
  | .star _ _, X, W, xs, G, h => by simp [chkA] at h
  | .tup _, X, W, xs, G, h => by simp [chkA] at h
  | .lst _, X, W, xs, G, h => by simp [chkA] at h
  | .bin _ _ _, X, W, xs, G, h => by simp [chkA] at h
  | .cmp _ _ _, X, W, xs, G, h => by simp [chkA] at h
  | .cmp2 _ _ _ _ _, X, W, xs, G, h => by simp [chkA] at h
  | .and _, X, W, xs, G, h => by simp [chkA] at h
  | .or _, X, W, xs, G, h => by simp [chkA] at h
  | .not _, X, W, xs, G, h => by simp [chkA] at h
  | .neg _, X, W, xs, G, h => by simp [chkA] at h
  | .ite _ _ _, X, W, xs, G, h => by simp [chkA] at h
  | .idx _ _, X, W, xs, G, h => by simp [chkA] at h
  | .slc _ _ _, X, W, xs, G, h => by simp [chkA] at h
  | .call _ _, X, W, xs, G, h => by simp [chkA] at h
  | .bi _ _, X, W, xs, G, h => by simp [chkA] at h
  | .isi _ _, X, W, xs, G, h => by simp [chkA] at h
  | .bm _ _ _, X, W, xs, G, h => by simp [chkA] at h
  | .comp _ _ _ _ _, X, W, xs, G, h => by simp [chkA] at h
  | .comp2 _ _ _ _ _ _ _ _ _, X, W, xs, G, h => by simp [chkA] at h
  | .itV _, X, W, xs, G, h => by simp [chkA] at h
  | .itRange _, X, W, xs, G, h => by simp [chkA] at h
  | .itEnum _, X, W, xs, G, h => by simp [chkA] at h
  | .itZip _ _, X, W, xs, G, h => by simp [chkA] at h
  | .itRev _, X, W, xs, G, h => by simp [chkA] at h
/-- arguments that are only read -/
theorem sndO : ∀ (e : E) {X : Cx} {W : L2.St → XW} {xs : List Expr}, Good X cls T C k W → chkO T X.N X.env.scope e xs = true → PA X xs (rd X.K cls as0 F0 H0 W (RSs X.K) (evs C e)) ∧ (∀ x ∈ xs, isStar x = false)
  | .nil, X, W, xs, G, h => by
    cases xs with
    | nil =>
      refine ⟨pa_nil.imp fun σ H Q q => ?_, by simp⟩
      obtain ⟨as, F, M, ρ, bi, q⟩ := q
      exact OutG.now (a := ([] : List D)) (v := ([] : List V)) (M := M) q bi.mem .nil
    | cons x xs => simp [chkO] at h
  | .cons e r, X, W, xs, G, h => by
    cases xs with
    | nil => simp [chkO] at h
    | cons x xs =>
      simp only [chkO, Bool.and_eq_true, Bool.not_eq_true'] at h
      obtain ⟨⟨h1, h2⟩, h3⟩ := h
      obtain ⟨pr, pl⟩ := sndO r G h3
      refine ⟨(pa_cons (snd_o h2 (sndE e G)) pr (starEach_ne h1)).imp fun σ H Q q => ?_, fun y hy => ?_⟩
      · refine (rd.bind (R := RS X.K) (f := ev C e) (g := fun x ρ M => (evs C r ρ M).bind fun xs M => .ok (x :: xs) M) q).imp fun v H1 ⟨as, F, M, ρ, d, bi, r1, h1⟩ => ?_
        refine ⟨as, F, M, ρ, bi, (OutG.bind (R := RSs X.K) h1).imp fun vs H2 ⟨as2, F2, M2, ds, s2, m2, r2, h2⟩ => ?_⟩
        exact OutG.now (a := d :: ds) (v := v :: vs) (M := M2) h2 m2 (.cons (Sh.step s2 r1) r2)
      · rcases List.mem_cons.mp hy with rfl | hy
        · exact h1
        · exact pl y hy
  | .var _, X, W, xs, G, h => by simp [chkO] at h
  | .bor _, X, W, xs, G, h => by simp [chkO] at h
  | .non, X, W, xs, G, h => by simp [chkO] at h
  | .bl _, X, W, xs, G, h => by simp [chkO] at h
  | .int _, X, W, xs, G, h => by simp [chkO] at h
  | .str _, X, W, xs, G, h => by simp [chkO] at h
  | .glo _, X, W, xs, G, h => by simp [chkO] at h
  | .star _ _, X, W, xs, G, h => by simp [chkO] at h
  | .tup _, X, W, xs, G, h => by simp [chkO] at h
  | .lst _, X, W, xs, G, h => by simp [chkO] at h
  | .bin _ _ _, X, W, xs, G, h => by simp [chkO] at h
  | .cmp _ _ _, X, W, xs, G, h => by simp [chkO] at h
  | .cmp2 _ _ _ _ _, X, W, xs, G, h => by simp [chkO] at h
  | .and _, X, W, xs, G, h => by simp [chkO] at h
  | .or _, X, W, xs, G, h => by simp [chkO] at h
  | .not _, X, W, xs, G, h => by simp [chkO] at h
  | .neg _, X, W, xs, G, h => by simp [chkO] at h
  | .ite _ _ _, X, W, xs, G, h => by simp [chkO] at h
  | .idx _ _, X, W, xs, G, h => by simp [chkO] at h
  | .slc _ _ _, X, W, xs, G, h => by simp [chkO] at h
  | .call _ _, X, W, xs, G, h => by simp [chkO] at h
  | .bi _ _, X, W, xs, G, h => by simp [chkO] at h
  | .isi _ _, X, W, xs, G, h => by simp [chkO] at h
  | .bm _ _ _, X, W, xs, G, h => by simp [chkO] at h
  | .comp _ _ _ _ _, X, W, xs, G, h => by simp [chkO] at h
  | .comp2 _ _ _ _ _ _ _ _ _, X, W, xs, G, h => by simp [chkO] at h
  | .itV _, X, W, xs, G, h => by simp [chkO] at h
  | .itRange _, X, W, xs, G, h => by simp [chkO] at h
  | .itEnum _, X, W, xs, G, h => by simp [chkO] at h
  | .itZip _ _, X, W, xs, G, h => by simp [chkO] at h
  | .itRev _, X, W, xs, G, h => by simp [chkO] at h
theorem sndAnd : ∀ (e : E) {X : Cx} {W : L2.St → XW} {xs : List Expr} {p : Pos}, Good X cls T C k W → chkB T X.N X.env.scope e xs = true → PE X (.BoolOp .And xs p) (rd X.K cls as0 F0 H0 W (RP X.K) (evAnd C e))
  | .cons e r, X, W, xs, p, G, h => by
    match xs, h with
    | [], h => simp [chkB] at h
    | [x], h =>
      simp only [chkB, Bool.and_eq_true] at h
      rw [evAnd_one h.1]
      exact pe_one (sndE e G h.2)
    | x :: y :: xs, h =>
      simp only [chkB, Bool.and_eq_true, Bool.not_eq_true'] at h
      obtain ⟨⟨h1, h2⟩, h3⟩ := h
      refine (pe_andT (sndE e G h2) (sndAnd r G h3)).imp fun σ H Q q => ?_
      have e1 : evAnd C (.cons e r) = fun ρ M => (ev C e ρ M).bind fun x M => (lift (x.tru M) M).bind fun k M => if k then evAnd C r ρ M else .ok x M := by
        funext ρ M
        show (if r.isNil = true then ev C e ρ M else _) = _
        rw [if_neg (by rw [h1]; decide)]
      rw [e1] at q
      refine (rd.bind (R := RP X.K) (f := ev C e) (g := fun x ρ M => (lift (x.tru M) M).bind fun k M => if k then evAnd C r ρ M else .ok x M) q).imp fun v H1 ⟨as, F, M, ρ, d, bi, r1, h1⟩ => ?_
      obtain ⟨kk, e2, h1⟩ := h1.lift_bind
      refine ⟨kk, tru_sh bi.mem (.rp r1) e2, ?_⟩
      cases kk with
      | true => exact ⟨as, F, M, ρ, bi, h1⟩
      | false => exact OutG.now (a := d) (M := M) h1 bi.mem r1
  | .var _, X, W, xs, p, G, h => by cases xs <;> simp [chkB] at h
  | .bor _, X, W, xs, p, G, h => by cases xs <;> simp [chkB] at h
  | .non, X, W, xs, p, G, h => by cases xs <;> simp [chkB] at h
  | .bl _, X, W, xs, p, G, h => by cases xs <;> simp [chkB] at h
  | .int _, X, W, xs, p, G, h => by cases xs <;> simp [chkB] at h
  | .str _, X, W, xs, p, G, h => by cases xs <;> simp [chkB] at h
  | .glo _, X, W, xs, p, G, h => by cases xs <;> simp [chkB] at h
  | .nil, X, W, xs, p, G, h => by cases xs <;> simp [chkB] at h
  | .star _ _, X, W, xs, p, G, h => by cases xs <;> simp [chkB] at h
  | .tup _, X, W, xs, p, G, h => by cases xs <;> simp [chkB] at h
  | .lst _, X, W, xs, p, G, h => by cases xs <;> simp [chkB] at h
  | .bin _ _ _, X, W, xs, p, G, h => by cases xs <;> simp [chkB] at h
  | .cmp _ _ _, X, W, xs, p, G, h => by cases xs <;> simp [chkB] at h
  | .cmp2 _ _ _ _ _, X, W, xs, p, G, h => by cases xs <;> simp [chkB] at h
  | .and _, X, W, xs, p, G, h => by cases xs <;> simp [chkB] at h
  | .or _, X, W, xs, p, G, h => by cases xs <;> simp [chkB] at h
  | .not _, X, W, xs, p, G, h => by cases xs <;> simp [chkB] at h
  | .neg _, X, W, xs, p, G, h => by cases xs <;> simp [chkB] at h
  | .ite _ _ _, X, W, xs, p, G, h => by cases xs <;> simp [chkB] at h
  | .idx _ _, X, W, xs, p, G, h => by cases xs <;> simp [chkB] at h
  | .slc _ _ _, X, W, xs, p, G, h => by cases xs <;> simp [chkB] at h
  | .call _ _, X, W, xs, p, G, h => by cases xs <;> simp [chkB] at h
  | .bi _ _, X, W, xs, p, G, h => by cases xs <;> simp [chkB] at h
  | .isi _ _, X, W, xs, p, G, h => by cases xs <;> simp [chkB] at h
  | .bm _ _ _, X, W, xs, p, G, h => by cases xs <;> simp [chkB] at h
  | .comp _ _ _ _ _, X, W, xs, p, G, h => by cases xs <;> simp [chkB] at h
  | .comp2 _ _ _ _ _ _ _ _ _, X, W, xs, p, G, h => by cases xs <;> simp [chkB] at h
  | .itV _, X, W, xs, p, G, h => by cases xs <;> simp [chkB] at h
  | .itRange _, X, W, xs, p, G, h => by cases xs <;> simp [chkB] at h
  | .itEnum _, X, W, xs, p, G, h => by cases xs <;> simp [chkB] at h
  | .itZip _ _, X, W, xs, p, G, h => by cases xs <;> simp [chkB] at h
  | .itRev _, X, W, xs, p, G, h => by cases xs <;> simp [chkB] at h
theorem sndOr : ∀ (e : E) {X : Cx} {W : L2.St → XW} {xs : List Expr} {p : Pos}, Good X cls T C k W → chkB T X.N X.env.scope e xs = true → PE X (.BoolOp .Or xs p) (rd X.K cls as0 F0 H0 W (RP X.K) (evOr C e))
  | .cons e r, X, W, xs, p, G, h => by
    match xs, h with
    | [], h => simp [chkB] at h
    | [x], h =>
      simp only [chkB, Bool.and_eq_true] at h
      rw [evOr_one h.1]
      exact pe_one (sndE e G h.2)
    | x :: y :: xs, h =>
      simp only [chkB, Bool.and_eq_true, Bool.not_eq_true'] at h
      obtain ⟨⟨h1, h2⟩, h3⟩ := h
      refine (pe_orT (sndE e G h2) (sndOr r G h3)).imp fun σ H Q q => ?_
      have e1 : evOr C (.cons e r) = fun ρ M => (ev C e ρ M).bind fun x M => (lift (x.tru M) M).bind fun k M => if k then .ok x M else evOr C r ρ M := by
        funext ρ M
        show (if r.isNil = true then ev C e ρ M else _) = _
        rw [if_neg (by rw [h1]; decide)]
      rw [e1] at q
      refine (rd.bind (R := RP X.K) (f := ev C e) (g := fun x ρ M => (lift (x.tru M) M).bind fun k M => if k then .ok x M else evOr C r ρ M) q).imp fun v H1 ⟨as, F, M, ρ, d, bi, r1, h1⟩ => ?_
      obtain ⟨kk, e2, h1⟩ := h1.lift_bind
      refine ⟨kk, tru_sh bi.mem (.rp r1) e2, ?_⟩
      cases kk with
      | true => exact OutG.now (a := d) (M := M) h1 bi.mem r1
      | false => exact ⟨as, F, M, ρ, bi, h1⟩
  | .var _, X, W, xs, p, G, h => by cases xs <;> simp [chkB] at h
  | .bor _, X, W, xs, p, G, h => by cases xs <;> simp [chkB] at h
  | .non, X, W, xs, p, G, h => by cases xs <;> simp [chkB] at h
  | .bl _, X, W, xs, p, G, h => by cases xs <;> simp [chkB] at h
  | .int _, X, W, xs, p, G, h => by cases xs <;> simp [chkB] at h
  | .str _, X, W, xs, p, G, h => by cases xs <;> simp [chkB] at h
  | .glo _, X, W, xs, p, G, h => by cases xs <;> simp [chkB] at h
  | .nil, X, W, xs, p, G, h => by cases xs <;> simp [chkB] at h
  | .star _ _, X, W, xs, p, G, h => by cases xs <;> simp [chkB] at h
  | .tup _, X, W, xs, p, G, h => by cases xs <;> simp [chkB] at h
  | .lst _, X, W, xs, p, G, h => by cases xs <;> simp [chkB] at h
  | .bin _ _ _, X, W, xs, p, G, h => by cases xs <;> simp [chkB] at h
  | .cmp _ _ _, X, W, xs, p, G, h => by cases xs <;> simp [chkB] at h
  | .cmp2 _ _ _ _ _, X, W, xs, p, G, h => by cases xs <;> simp [chkB] at h
  | .and _, X, W, xs, p, G, h => by cases xs <;> simp [chkB] at h
  | .or _, X, W, xs, p, G, h => by cases xs <;> simp [chkB] at h
  | .not _, X, W, xs, p, G, h => by cases xs <;> simp [chkB] at h
  | .neg _, X, W, xs, p, G, h => by cases xs <;> simp [chkB] at h
  | .ite _ _ _, X, W, xs, p, G, h => by cases xs <;> simp [chkB] at h
  | .idx _ _, X, W, xs, p, G, h => by cases xs <;> simp [chkB] at h
  | .slc _ _ _, X, W, xs, p, G, h => by cases xs <;> simp [chkB] at h
  | .call _ _, X, W, xs, p, G, h => by cases xs <;> simp [chkB] at h
  | .bi _ _, X, W, xs, p, G, h => by cases xs <;> simp [chkB] at h
  | .isi _ _, X, W, xs, p, G, h => by cases xs <;> simp [chkB] at h
  | .bm _ _ _, X, W, xs, p, G, h => by cases xs <;> simp [chkB] at h
  | .comp _ _ _ _ _, X, W, xs, p, G, h => by cases xs <;> simp [chkB] at h
  | .comp2 _ _ _ _ _ _ _ _ _, X, W, xs, p, G, h => by cases xs <;> simp [chkB] at h
  | .itV _, X, W, xs, p, G, h => by cases xs <;> simp [chkB] at h
  | .itRange _, X, W, xs, p, G, h => by cases xs <;> simp [chkB] at h
  | .itEnum _, X, W, xs, p, G, h => by cases xs <;> simp [chkB] at h
  | .itZip _ _, X, W, xs, p, G, h => by cases xs <;> simp [chkB] at h
  | .itRev _, X, W, xs, p, G, h => by cases xs <;> simp [chkB] at h
theorem sndTAnd : ∀ (e : E) {X : Cx} {W : L2.St → XW} {xs : List Expr} {p : Pos}, Good X cls T C k W → chkB T X.N X.env.scope e xs = true → PW X (.BoolOp .And xs p) (rd X.K cls as0 F0 H0 W RB (tst false (evAnd C e)))
  | .cons e r, X, W, xs, p, G, h => by
    match xs, h with
    | [], h => simp [chkB] at h
    | [x], h =>
      simp only [chkB, Bool.and_eq_true] at h
      rw [evAnd_one h.1]
      exact pw_and1 (ptO (by rw [h.2, Bool.or_true]) (fun h => sndE e G h) (fun t _ h => sndTF e t G h))
    | x :: y :: xs, h =>
      simp only [chkB, Bool.and_eq_true, Bool.not_eq_true'] at h
      obtain ⟨⟨h1, h2⟩, h3⟩ := h
      have key := pw_and (ptO (W := W) (as0 := as0) (F0 := F0) (H0 := H0) (by rw [h2, Bool.or_true]) (fun h => sndE e G h) (fun t _ h => sndTF e t G h)) (sndTAnd (p := p) r G h3)
      refine ⟨fun wh pins s σ H Q I q => key.run wh pins s σ H Q I ?_⟩
      rw [tst_and h1] at q
      refine (rd.bind (R := RB) (f := tst false (ev C e)) (g := fun k ρ M => if k then tst false (evAnd C r) ρ M else .ok false M) q).imp fun v H1 ⟨as, F, M, ρ, d, bi, r1, h1⟩ => ?_
      have r1 : d = v := r1
      subst r1
      cases d with
      | true => exact ⟨as, F, M, ρ, bi, h1⟩
      | false => exact OutG.now (a := false) (v := false) (M := M) h1 bi.mem rfl
  | .var _, X, W, xs, p, G, h => by cases xs <;> simp [chkB] at h
  | .bor _, X, W, xs, p, G, h => by cases xs <;> simp [chkB] at h
  | .non, X, W, xs, p, G, h => by cases xs <;> simp [chkB] at h
  | .bl _, X, W, xs, p, G, h => by cases xs <;> simp [chkB] at h
  | .int _, X, W, xs, p, G, h => by cases xs <;> simp [chkB] at h
  | .str _, X, W, xs, p, G, h => by cases xs <;> simp [chkB] at h
  | .glo _, X, W, xs, p, G, h => by cases xs <;> simp [chkB] at h
  | .nil, X, W, xs, p, G, h => by cases xs <;> simp [chkB] at h
  | .star _ _, X, W, xs, p, G, h => by cases xs <;> simp [chkB] at h
  | .tup _, X, W, xs, p, G, h => by cases xs <;> simp [chkB] at h
  | .lst _, X, W, xs, p, G, h => by cases xs <;> simp [chkB] at h
  | .bin _ _ _, X, W, xs, p, G, h => by cases xs <;> simp [chkB] at h
  | .cmp _ _ _, X, W, xs, p, G, h => by cases xs <;> simp [chkB] at h
  | .cmp2 _ _ _ _ _, X, W, xs, p, G, h => by cases xs <;> simp [chkB] at h
  | .and _, X, W, xs, p, G, h => by cases xs <;> simp [chkB] at h
  | .or _, X, W, xs, p, G, h => by cases xs <;> simp [chkB] at h
  | .not _, X, W, xs, p, G, h => by cases xs <;> simp [chkB] at h
  | .neg _, X, W, xs, p, G, h => by cases xs <;> simp [chkB] at h
  | .ite _ _ _, X, W, xs, p, G, h => by cases xs <;> simp [chkB] at h
  | .idx _ _, X, W, xs, p, G, h => by cases xs <;> simp [chkB] at h
  | .slc _ _ _, X, W, xs, p, G, h => by cases xs <;> simp [chkB] at h
  | .call _ _, X, W, xs, p, G, h => by cases xs <;> simp [chkB] at h
  | .bi _ _, X, W, xs, p, G, h => by cases xs <;> simp [chkB] at h
  | .isi _ _, X, W, xs, p, G, h => by cases xs <;> simp [chkB] at h
  | .bm _ _ _, X, W, xs, p, G, h => by cases xs <;> simp [chkB] at h
  | .comp _ _ _ _ _, X, W, xs, p, G, h => by cases xs <;> simp [chkB] at h
  | .comp2 _ _ _ _ _ _ _ _ _, X, W, xs, p, G, h => by cases xs <;> simp [chkB] at h
  | .itV _, X, W, xs, p, G, h => by cases xs <;> simp [chkB] at h
  | .itRange _, X, W, xs, p, G, h => by cases xs <;> simp [chkB] at h
  | .itEnum _, X, W, xs, p, G, h => by cases xs <;> simp [chkB] at h
  | .itZip _ _, X, W, xs, p, G, h => by cases xs <;> simp [chkB] at h
  | .itRev _, X, W, xs, p, G, h => by cases xs <;> simp [chkB] at h
theorem sndTOr : ∀ (e : E) {X : Cx} {W : L2.St → XW} {xs : List Expr} {p : Pos}, Good X cls T C k W → chkB T X.N X.env.scope e xs = true → PW X (.BoolOp .Or xs p) (rd X.K cls as0 F0 H0 W RB (tst false (evOr C e)))
  | .cons e r, X, W, xs, p, G, h => by
    match xs, h with
    | [], h => simp [chkB] at h
    | [x], h =>
      simp only [chkB, Bool.and_eq_true] at h
      rw [evOr_one h.1]
      exact pw_or1 (ptO (by rw [h.2, Bool.or_true]) (fun h => sndE e G h) (fun t _ h => sndTF e t G h))
    | x :: y :: xs, h =>
      simp only [chkB, Bool.and_eq_true, Bool.not_eq_true'] at h
      obtain ⟨⟨h1, h2⟩, h3⟩ := h
      have key := pw_or (ptO (W := W) (as0 := as0) (F0 := F0) (H0 := H0) (by rw [h2, Bool.or_true]) (fun h => sndE e G h) (fun t _ h => sndTF e t G h)) (sndTOr (p := p) r G h3)
      refine ⟨fun wh pins s σ H Q I q => key.run wh pins s σ H Q I ?_⟩
      rw [tst_or h1] at q
      refine (rd.bind (R := RB) (f := tst false (ev C e)) (g := fun k ρ M => if k then .ok true M else tst false (evOr C r) ρ M) q).imp fun v H1 ⟨as, F, M, ρ, d, bi, r1, h1⟩ => ?_
      have r1 : d = v := r1
      subst r1
      cases d with
      | true => exact OutG.now (a := true) (v := true) (M := M) h1 bi.mem rfl
      | false => exact ⟨as, F, M, ρ, bi, h1⟩
  | .var _, X, W, xs, p, G, h => by cases xs <;> simp [chkB] at h
  | .bor _, X, W, xs, p, G, h => by cases xs <;> simp [chkB] at h
  | .non, X, W, xs, p, G, h => by cases xs <;> simp [chkB] at h
  | .bl _, X, W, xs, p, G, h => by cases xs <;> simp [chkB] at h
  | .int _, X, W, xs, p, G, h => by cases xs <;> simp [chkB] at h
  | .str _, X, W, xs, p, G, h => by cases xs <;> simp [chkB] at h
  | .glo _, X, W, xs, p, G, h => by cases xs <;> simp [chkB] at h
  | .nil, X, W, xs, p, G, h => by cases xs <;> simp [chkB] at h
  | .star _ _, X, W, xs, p, G, h => by cases xs <;> simp [chkB] at h
  | .tup _, X, W, xs, p, G, h => by cases xs <;> simp [chkB] at h
  | .lst _, X, W, xs, p, G, h => by cases xs <;> simp [chkB] at h
  | .bin _ _ _, X, W, xs, p, G, h => by cases xs <;> simp [chkB] at h
  | .cmp _ _ _, X, W, xs, p, G, h => by cases xs <;> simp [chkB] at h
  | .cmp2 _ _ _ _ _, X, W, xs, p, G, h => by cases xs <;> simp [chkB] at h
  | .and _, X, W, xs, p, G, h => by cases xs <;> simp [chkB] at h
  | .or _, X, W, xs, p, G, h => by cases xs <;> simp [chkB] at h
  | .not _, X, W, xs, p, G, h => by cases xs <;> simp [chkB] at h
  | .neg _, X, W, xs, p, G, h => by cases xs <;> simp [chkB] at h
  | .ite _ _ _, X, W, xs, p, G, h => by cases xs <;> simp [chkB] at h
  | .idx _ _, X, W, xs, p, G, h => by cases xs <;> simp [chkB] at h
  | .slc _ _ _, X, W, xs, p, G, h => by cases xs <;> simp [chkB] at h
  | .call _ _, X, W, xs, p, G, h => by cases xs <;> simp [chkB] at h
  | .bi _ _, X, W, xs, p, G, h => by cases xs <;> simp [chkB] at h
  | .isi _ _, X, W, xs, p, G, h => by cases xs <;> simp [chkB] at h
  | .bm _ _ _, X, W, xs, p, G, h => by cases xs <;> simp [chkB] at h
  | .comp _ _ _ _ _, X, W, xs, p, G, h => by cases xs <;> simp [chkB] at h
  | .comp2 _ _ _ _ _ _ _ _ _, X, W, xs, p, G, h => by cases xs <;> simp [chkB] at h
  | .itV _, X, W, xs, p, G, h => by cases xs <;> simp [chkB] at h
  | .itRange _, X, W, xs, p, G, h => by cases xs <;> simp [chkB] at h
  | .itEnum _, X, W, xs, p, G, h => by cases xs <;> simp [chkB] at h
  | .itZip _ _, X, W, xs, p, G, h => by cases xs <;> simp [chkB] at h
  | .itRev _, X, W, xs, p, G, h => by cases xs <;> simp [chkB] at h
/-- tests -/
theorem sndTF : ∀ (e : E), isTF e = true → ∀ {X : Cx} {W : L2.St → XW} {a : Expr}, Good X cls T C k W → chkE T X.N X.env.scope e a = true → PT X a (rd X.K cls as0 F0 H0 W RB (tst false (ev C e)))
  | .not x, _, X, W, a, G, h => by
    cases a with
    | UnaryOp op x' p =>
      cases op with
      | Not =>
        simp only [chkE] at h
        rw [tst_not]
        refine (pt_not (ptO h (fun h => sndE x G h) (fun t _ h => sndTF x t G h))).imp fun σ H Q q => ?_
        exact (rd.bind1 (R := RB) (f := tst false (ev C x)) (h := fun k M => .ok (!k) M) q).imp fun v H1 ⟨as, F, M, d, m, r, h⟩ => OutG.now (a := !d) (v := !v) (M := M) h m (by cases r; rfl)
      | _ => simp [chkE] at h
    | _ => simp [chkE] at h
  | .and es, _, X, W, a, G, h => by
    cases a with
    | BoolOp op xs p =>
      cases op with
      | And => exact (sndTAnd es G (by simpa only [chkE] using h)).pt
      | Or => simp [chkE] at h
    | _ => simp [chkE] at h
  | .or es, _, X, W, a, G, h => by
    cases a with
    | BoolOp op xs p =>
      cases op with
      | Or => exact (sndTOr es G (by simpa only [chkE] using h)).pt
      | And => simp [chkE] at h
    | _ => simp [chkE] at h
  | .ite c x y, _, X, W, a, G, h => by
    cases a with
    | IfExp c' x' y' p =>
      simp only [chkE, Bool.and_eq_true] at h
      obtain ⟨⟨h1, h2⟩, h3⟩ := h
      rw [tst_ite]
      refine (pt_ite (ptO h1 (fun h => sndE c G h) (fun t _ h => sndTF c t G h)) (ptO (W := W) (as0 := as0) (F0 := F0) (H0 := H0) (by rw [h2, Bool.or_true]) (fun h => sndE x G h) (fun t _ h => sndTF x t G h)) (ptO (W := W) (as0 := as0) (F0 := F0) (H0 := H0) (by rw [h3, Bool.or_true]) (fun h => sndE y G h) (fun t _ h => sndTF y t G h))).imp fun σ H Q q => ?_
      refine (rd.bind (R := RB) (f := tst false (ev C c)) (g := fun k ρ M => if k then tst false (ev C x) ρ M else tst false (ev C y) ρ M) q).imp fun v H1 ⟨as, F, M, ρ, d, bi, r, h⟩ => ?_
      have r : d = v := r
      subst r
      cases d with
      | true => exact ⟨as, F, M, ρ, bi, h⟩
      | false => exact ⟨as, F, M, ρ, bi, h⟩
    | _ => simp [chkE] at h
  | .cmp op x y, _, X, W, a, G, h => by
    cases a with
    | Compare x' ops ys p =>
      match ops, ys, h with
      | [o], [y'], h =>
        simp only [chkE, Bool.and_eq_true, beq_iff_eq, Bool.not_eq_true'] at h
        obtain ⟨⟨⟨h1, h4⟩, h2⟩, h3⟩ := h
        subst h1
        have hu : X.A.units + 200 < cLine := by have := G.room.un; omega
        rw [tst_cmp]
        refine (pt_cmpR (opr_cmp (cls := cls) hu op) (snd_o h2 (sndE x G)) (snd_o h3 (sndE y G)) (mark_of h4)).imp fun σ H Q q => ?_
        refine (rd.bind2 (f := ev C x) (g := ev C y) (h := fun x y M => lift (cmpQ M op x y) M) q).imp fun v H1 q1 => q1.imp fun u H2 ⟨as, F, M, d1, d2, m, r1, r2, h⟩ => ?_
        obtain ⟨kk, e, h⟩ := h.lift
        exact ⟨as, F, M, d1, d2, kk, m, r1, r2, e, kk, rfl, h.now m rfl⟩
      | [], _, h => simp [chkE] at h
      | [_], [], h => simp [chkE] at h
      | [_], _ :: _ :: _, h => simp [chkE] at h
      | _ :: _ :: _, _, h => simp [chkE] at h
    | _ => simp [chkE] at h
  | .cmp2 o1 o2 x y z, _, X, W, a, G, h => by
    cases a with
    | Compare x' ops ys p =>
      match ops, ys, h with
      | [p1, p2], [y', z'], h =>
        simp only [chkE, Bool.and_eq_true, beq_iff_eq, Bool.not_eq_true'] at h
        obtain ⟨⟨⟨⟨⟨⟨h1, h2⟩, h3⟩, h4⟩, h5⟩, h6⟩, h7⟩ := h
        subst h1 h2
        have hu : X.A.units + 200 < cLine := by have := G.room.un; omega
        exact (pt_chain (opr_cmp (cls := cls) hu o1) (opr_cmp (cls := cls) hu o2) (sndE x G h5) (sndE y G h6) (sndE z G h7) (lastMarks_of h3 h4)).imp fun σ H Q q => chain_redT q
      | [], _, h => simp [chkE] at h
      | [_], _, h => simp [chkE] at h
      | [_, _], [], h => simp [chkE] at h
      | [_, _], [_], h => simp [chkE] at h
      | [_, _], _ :: _ :: _ :: _, h => simp [chkE] at h
      | _ :: _ :: _ :: _, _, h => simp [chkE] at h
    | _ => simp [chkE] at h
  | .var _, t, _, _, _, _, _ => by simp [isTF] at t
  | .bor _, t, _, _, _, _, _ => by simp [isTF] at t
  | .non, t, _, _, _, _, _ => by simp [isTF] at t
  | .bl _, t, _, _, _, _, _ => by simp [isTF] at t
  | .int _, t, _, _, _, _, _ => by simp [isTF] at t
  | .str _, t, _, _, _, _, _ => by simp [isTF] at t
  | .glo _, t, _, _, _, _, _ => by simp [isTF] at t
  | .nil, t, _, _, _, _, _ => by simp [isTF] at t
  | .cons _ _, t, _, _, _, _, _ => by simp [isTF] at t
  | .star _ _, t, _, _, _, _, _ => by simp [isTF] at t
  | .tup _, t, _, _, _, _, _ => by simp [isTF] at t
  | .lst _, t, _, _, _, _, _ => by simp [isTF] at t
  | .bin _ _ _, t, _, _, _, _, _ => by simp [isTF] at t
  | .neg _, t, _, _, _, _, _ => by simp [isTF] at t
  | .idx _ _, t, _, _, _, _, _ => by simp [isTF] at t
  | .slc _ _ _, t, _, _, _, _, _ => by simp [isTF] at t
  | .call _ _, t, _, _, _, _, _ => by simp [isTF] at t
  | .bi _ _, t, _, _, _, _, _ => by simp [isTF] at t
  | .isi _ _, t, _, _, _, _, _ => by simp [isTF] at t
  | .bm _ _ _, t, _, _, _, _, _ => by simp [isTF] at t
  | .comp _ _ _ _ _, t, _, _, _, _, _ => by simp [isTF] at t
  | .comp2 _ _ _ _ _ _ _ _ _, t, _, _, _, _, _ => by simp [isTF] at t
  | .itV _, t, _, _, _, _, _ => by simp [isTF] at t
  | .itRange _, t, _, _, _, _, _ => by simp [isTF] at t
  | .itEnum _, t, _, _, _, _, _ => by simp [isTF] at t
  | .itZip _ _, t, _, _, _, _, _ => by simp [isTF] at t
  | .itRev _, t, _, _, _, _, _ => by simp [isTF] at t
/-- what is walked -/
theorem sndI : ∀ (e : E) {X : Cx} {W : L2.St → XW} {a tg : Expr}, Good X cls T C k W → chkI T X.N X.env.scope e a = true → PI X tg a (rd X.K cls as0 F0 H0 W (RI X.K cls (itBor e)) (evI C e)) ∧ isSetE a = false
  | .itV e, X, W, a, tg, G, h => by
    simp only [chkI, Bool.and_eq_true, Bool.not_eq_true'] at h
    refine ⟨?_, h.1⟩
    rcases Bool.or_eq_true_iff.mp h.2 with h2 | h2
    · have e1 : itBor (.itV e) = true := by cases e <;> first | rfl | (simp [borB] at h2; done)
      rw [e1]
      exact snd_itV (R := RS X.K) (snd_bor h2) (fun _ _ _ _ _ h => h) (fun _ _ _ _ _ h => wk_sh h)
    · have e1 : itBor (.itV e) = false := by cases e <;> first | rfl | (simp [chkE] at h2; done)
      rw [e1]
      exact snd_itV (R := RP X.K) (sndE e G h2) (fun _ _ _ _ _ h => .rp h) (fun _ _ _ _ _ h => wk_rp h)
  | .itRange es, X, W, a, tg, G, h => by
    cases a with
    | Call fn xs kw p =>
      cases fn with
      | Name x p' =>
        cases kw with
        | nil =>
          simp only [chkI, Bool.and_eq_true, beq_iff_eq, Bool.or_eq_true] at h
          obtain ⟨⟨⟨h1, h2⟩, h3⟩, h4⟩ := h
          subst h1
          obtain ⟨pa, pl⟩ := sndO es G h4
          exact ⟨snd_range G h2 h3 pa pl, rfl⟩
        | cons _ _ => simp [chkI] at h
      | _ => simp [chkI] at h
    | _ => simp [chkI] at h
  | .var _, X, W, a, tg, G, h => by simp [chkI] at h
  | .bor _, X, W, a, tg, G, h => by simp [chkI] at h
  | .non, X, W, a, tg, G, h => by simp [chkI] at h
  | .bl _, X, W, a, tg, G, h => by simp [chkI] at h
  | .int _, X, W, a, tg, G, h => by simp [chkI] at h
  | .str _, X, W, a, tg, G, h => by simp [chkI] at h
  | .glo _, X, W, a, tg, G, h => by simp [chkI] at h
  | .nil, X, W, a, tg, G, h => by simp [chkI] at h
  | .cons _ _, X, W, a, tg, G, h => by simp [chkI] at h
  | .star _ _, X, W, a, tg, G, h => by simp [chkI] at h
  | .tup _, X, W, a, tg, G, h => by simp [chkI] at h
  | .lst _, X, W, a, tg, G, h => by simp [chkI] at h
  | .bin _ _ _, X, W, a, tg, G, h => by simp [chkI] at h
  | .cmp _ _ _, X, W, a, tg, G, h => by simp [chkI] at h
  | .cmp2 _ _ _ _ _, X, W, a, tg, G, h => by simp [chkI] at h
  | .and _, X, W, a, tg, G, h => by simp [chkI] at h
  | .or _, X, W, a, tg, G, h => by simp [chkI] at h
  | .not _, X, W, a, tg, G, h => by simp [chkI] at h
  | .neg _, X, W, a, tg, G, h => by simp [chkI] at h
  | .ite _ _ _, X, W, a, tg, G, h => by simp [chkI] at h
  | .idx _ _, X, W, a, tg, G, h => by simp [chkI] at h
  | .slc _ _ _, X, W, a, tg, G, h => by simp [chkI] at h
  | .call _ _, X, W, a, tg, G, h => by simp [chkI] at h
  | .bi _ _, X, W, a, tg, G, h => by simp [chkI] at h
  | .isi _ _, X, W, a, tg, G, h => by simp [chkI] at h
  | .bm _ _ _, X, W, a, tg, G, h => by simp [chkI] at h
  | .comp _ _ _ _ _, X, W, a, tg, G, h => by simp [chkI] at h
  | .comp2 _ _ _ _ _ _ _ _ _, X, W, a, tg, G, h => by simp [chkI] at h
  | .itEnum _, X, W, a, tg, G, h => by simp [chkI] at h
  | .itZip _ _, X, W, a, tg, G, h => by simp [chkI] at h
  | .itRev _, X, W, a, tg, G, h => by simp [chkI] at h
end
end
end Ev

set_option maxRecDepth 100000
set_option maxHeartbeats 8000000
/-! Ev15: lists of a name's own. -/
namespace Ev
open PySem PySem.Spec PyProof.Rows L2

/-- a new list that nobody else knows; Hs: the heap ahead of it -/
def RF (K : PySem.W.Frag) (H0 Hs : Hp) : List Addr → (Addr → Prop) → Hp → D → V → Prop := fun as F H d v => ∃ p vs xs, d = .lst xs ∧ v = .ref p ∧ Own H0 as F H p vs ∧ Rps K F as H xs vs ∧ Hs p = none

theorem Ext.trans {as as' as2 : List Addr} {F F' F2 : Addr → Prop} {H H' H2 : Hp} (a : Ext as F H as' F' H') (b : Ext as' F' H' as2 F2 H2) : Ext as F H as2 F2 H2 :=
  ⟨fun n p h => b.get n p (a.get n p h), fun x h => b.fr x (a.fr x h), fun x o f h => b.keepF x o (a.fr x f) (a.keepF x o f h), fun x o h m => b.keepI x o (a.keepI x o h m) m⟩
/-- what a statement's run gives (as F H: ahead of it) -/
def OutS (K : PySem.W.Frag) (cls : Nat → Addr) (as0 : List Addr) (F0 : Addr → Prop) (H0 : Hp) (W : L2.St → XW) (as : List Addr) (F : Addr → Prop) (H : Hp) (r : Res (Fl × Ev.Env)) (D' : Ends) : Prop :=
  match r with
  | .ok (fl, ρ) M => ∀ as' F' σ' H', Ext as F H as' F' H' → BI K cls as0 F0 H0 as' F' M ρ σ' H' → (match fl with
    | .next => D'.nx σ' H'
    | .cont => D'.ct σ' H'
    | .ret d => ∀ v, Rp K F' as' H' d v → D'.rt v H')
  | .exc c d M => ∀ as F σ H, Stp as0 F0 H0 as F H → MemOk K cls as F M H → W σ c d M as F H
  | .bad => False
/-- a statement's reading -/
def rdS (K : PySem.W.Frag) (cls : Nat → Addr) (as0 : List Addr) (F0 : Addr → Prop) (H0 : Hp) (W : L2.St → XW) (f : Ev.Env → Mem → Res (Fl × Ev.Env)) : TS := fun D' σ H => ∃ as F M ρ, BI K cls as0 F0 H0 as F M ρ σ H ∧ OutS K cls as0 F0 H0 W as F H (f ρ M) D'

section
variable {α β : Type} {K : PySem.W.Frag} {cls : Nat → Addr} {as0 : List Addr} {F0 : Addr → Prop} {H0 : Hp} {W : L2.St → XW} {R : List Addr → (Addr → Prop) → Hp → α → β → Prop} {σ : L2.St} {H : Hp} {D' : Ends} {as : List Addr} {F : Addr → Prop}
theorem OutS.ext {r : Res (Fl × Ev.Env)} {as1 : List Addr} {F1 : Addr → Prop} {H1 : Hp} (h : OutS K cls as0 F0 H0 W as F H r D') (e : Ext as F H as1 F1 H1) : OutS K cls as0 F0 H0 W as1 F1 H1 r D' := by
  cases r with
  | ok a M => exact fun as' F' σ' H' e' bi => h as' F' σ' H' (e.trans e') bi
  | exc c d M => exact h
  | bad => exact h
/-- an expression first -/
theorem rdS.bind {f : Ev.Env → Mem → Res α} {g : α → Ev.Env → Mem → Res (Fl × Ev.Env)} (q : rdS K cls as0 F0 H0 W (fun ρ M => (f ρ M).bind fun x M => g x ρ M) D' σ H) :
    rd K cls as0 F0 H0 W R f σ H (fun v H1 => ∃ as F M ρ d, BI K cls as0 F0 H0 as F M ρ σ H1 ∧ R as F H1 d v ∧ OutS K cls as0 F0 H0 W as F H1 (g d ρ M) D') := by
  obtain ⟨as, F, M, ρ, bi, q⟩ := q
  refine ⟨as, F, M, ρ, bi, ?_⟩
  cases e : f ρ M with
  | ok d M' =>
    replace q : OutS K cls as0 F0 H0 W as F H ((f ρ M).bind fun x M => g x ρ M) D' := q
    rw [e] at q
    exact fun as' F' v H' s m r => ⟨as', F', M', ρ, d, bi.step s m, r, OutS.ext q s.ext⟩
  | exc c d M' =>
    replace q : OutS K cls as0 F0 H0 W as F H ((f ρ M).bind fun x M => g x ρ M) D' := q
    rw [e] at q
    exact fun as' F' H' s m => q as' F' σ H' (bi.stp.trans s) m
  | bad =>
    replace q : OutS K cls as0 F0 H0 W as F H ((f ρ M).bind fun x M => g x ρ M) D' := q
    rw [e] at q
    exact q.elim
/-- .. where the value is new -/
theorem rdS.bindF {f : Ev.Env → Mem → Res α} {g : α → Ev.Env → Mem → Res (Fl × Ev.Env)} (q : rdS K cls as0 F0 H0 W (fun ρ M => (f ρ M).bind fun x M => g x ρ M) D' σ H) :
    rd K cls as0 F0 H0 W R f σ H (fun v H1 => ∃ as F M ρ d, BI K cls as0 F0 H0 as F M ρ σ H1 ∧ R as F H1 d v ∧ OutS K cls as0 F0 H0 W as F H1 (g d ρ M) D' ∧ ∀ (i : Nat) (ys : List D) (a : Addr), ρ[i]? = some (.own ys) → σ[i]? = some (some (V.ref a)) → H a ≠ none) := by
  obtain ⟨as, F, M, ρ, bi, q⟩ := q
  refine ⟨as, F, M, ρ, bi, ?_⟩
  have own : ∀ (i : Nat) (ys : List D) (a : Addr), ρ[i]? = some (.own ys) → σ[i]? = some (some (V.ref a)) → H a ≠ none := fun i ys a h e => by
    obtain ⟨b, vs, h1, h2, _⟩ := bi.slo.own i ys h
    rw [h1] at e
    cases e
    rw [h2.at_]; simp
  cases e : f ρ M with
  | ok d M' =>
    replace q : OutS K cls as0 F0 H0 W as F H ((f ρ M).bind fun x M => g x ρ M) D' := q
    rw [e] at q
    exact fun as' F' v H' s m r => ⟨as', F', M', ρ, d, bi.step s m, r, OutS.ext q s.ext, own⟩
  | exc c d M' =>
    replace q : OutS K cls as0 F0 H0 W as F H ((f ρ M).bind fun x M => g x ρ M) D' := q
    rw [e] at q
    exact fun as' F' H' s m => q as' F' σ H' (bi.stp.trans s) m
  | bad =>
    replace q : OutS K cls as0 F0 H0 W as F H ((f ρ M).bind fun x M => g x ρ M) D' := q
    rw [e] at q
    exact q.elim
theorem OutS.lift_bind {o : Option α} {M : Mem} {f : α → Mem → Res (Fl × Ev.Env)} (h : OutS K cls as0 F0 H0 W as F H ((lift o M).bind f) D') : ∃ a, o = some a ∧ OutS K cls as0 F0 H0 W as F H (f a M) D' := by
  cases o with
  | none => exact h.elim
  | some a => exact ⟨a, rfl, h⟩
theorem OutS.next {ρ : Ev.Env} {M : Mem} (h : OutS K cls as0 F0 H0 W as F H (.ok (.next, ρ) M) D') (bi : BI K cls as0 F0 H0 as F M ρ σ H) : D'.nx σ H := h as F σ H Stp.refl.ext bi
theorem OutS.nextE {ρ : Ev.Env} {M : Mem} {as' : List Addr} {F' : Addr → Prop} {H' : Hp} (h : OutS K cls as0 F0 H0 W as F H (.ok (.next, ρ) M) D') (e : Ext as F H as' F' H') (bi : BI K cls as0 F0 H0 as' F' M ρ σ H') : D'.nx σ H' := h as' F' σ H' e bi
/-- one statement behind another one -/
theorem rdS.seq {f : Ev.Env → Mem → Res (Fl × Ev.Env)} {g : Ev.Env → Mem → Res (Fl × Ev.Env)}
    (q : rdS K cls as0 F0 H0 W (fun ρ M => (f ρ M).bind fun r M => match r.1 with | .next => g r.2 M | f => .ok (f, r.2) M) D' σ H) :
    rdS K cls as0 F0 H0 W f { D' with nx := rdS K cls as0 F0 H0 W g D' } σ H := by
  obtain ⟨as, F, M, ρ, bi, q⟩ := q
  refine ⟨as, F, M, ρ, bi, ?_⟩
  replace q : OutS K cls as0 F0 H0 W as F H ((f ρ M).bind fun r M => match r.1 with | .next => g r.2 M | f => .ok (f, r.2) M) D' := q
  cases e : f ρ M with
  | ok a M' =>
    rw [e] at q
    obtain ⟨fl, ρ'⟩ := a
    cases fl with
    | next => exact fun as F σ H ex bi => ⟨as, F, M', ρ', bi, OutS.ext q ex⟩
    | cont => exact q
    | ret d => exact q
  | exc c d M' => rw [e] at q; exact q
  | bad => rw [e] at q; exact q
/-- a turn of a loop -/
theorem OutS.turn {D1 : Ends} {r : Res (Fl × Ev.Env)} {f : Ev.Env → Mem → Res (Fl × Ev.Env)} {N : L2.St → Hp → Prop} (q : OutS K cls as0 F0 H0 W as F H (r.bind fun r M => match r.1 with | .ret d => .ok (.ret d, r.2) M | _ => f r.2 M) D')
    (n : ∀ as' F' M' ρ' σ' H', Ext as F H as' F' H' → BI K cls as0 F0 H0 as' F' M' ρ' σ' H' → OutS K cls as0 F0 H0 W as' F' H' (f ρ' M') D' → N σ' H') (h1 : D1.nx = N) (h2 : D1.ct = N) (h3 : D1.rt = D'.rt) : OutS K cls as0 F0 H0 W as F H r D1 := by
  cases r with
  | ok a M' =>
    obtain ⟨fl, ρ'⟩ := a
    cases fl with
    | next => intro as' F' σ' H' ex bi; show D1.nx σ' H'; rw [h1]; exact n _ _ _ _ _ _ ex bi (OutS.ext q ex)
    | cont => intro as' F' σ' H' ex bi; show D1.ct σ' H'; rw [h2]; exact n _ _ _ _ _ _ ex bi (OutS.ext q ex)
    | ret d => intro as' F' σ' H' ex bi v r; show D1.rt v H'; rw [h3]; exact q as' F' σ' H' ex bi v r
  | exc c d M' => exact q
  | bad => exact q

/-! ### a name's own list -/
theorem BI.ownAt {as : List Addr} {F : Addr → Prop} {M : Mem} {ρ : Ev.Env} (bi : BI K cls as0 F0 H0 as F M ρ σ H) {i : Nat} {xs : List D} (h : ownOf ρ i = some xs) : ρ[i]? = some (.own xs) ∧ i < ρ.length ∧ ∃ a vs, σ[i]? = some (some (V.ref a)) ∧ Own H0 as F H a vs ∧ Rps K F as H xs vs := by
  unfold ownOf at h
  split at h
  · rename_i ys e
    cases h
    exact ⟨e, (List.getElem?_eq_some_iff.mp e).1, bi.slo.own i _ e⟩
  · cases h
/-- it changes -/
theorem BI.ownSet {as : List Addr} {F : Addr → Prop} {M : Mem} {ρ : Ev.Env} (bi : BI K cls as0 F0 H0 as F M ρ σ H) {i : Nat} {xs ys : List D} {a : Addr} {vs us : List V} (h : ρ[i]? = some (.own xs)) (hs : σ[i]? = some (some (V.ref a))) (o : Own H0 as F H a vs)
    (r : Rps K F as H ys us) (z : us.length ≤ sizeLine) : BI K cls as0 F0 H0 as F M (ρ.set i (.own ys)) σ (upd H a (.lst us)) := by
  have hi : i < ρ.length := (List.getElem?_eq_some_iff.mp h).1
  have ex : Ext as F H as F (upd H a (.lst us)) := Ext.own o.at_ o.nf
  refine ⟨bi.stp.own o.at_ o.nf o.new, bi.mem.own o.at_ o.nf o.na, ⟨by rw [List.length_set]; exact bi.slo.len, fun j d e => ?_, fun j zs e => ?_, fun j l zs ws b e1 e2 e3 e4 => ?_⟩⟩
  · by_cases z : i = j
    · subst z
      rw [List.getElem?_set_self hi] at e
      cases e
    · rw [List.getElem?_set_ne z] at e
      obtain ⟨v, h1, h2⟩ := bi.slo.val j d e
      exact ⟨v, h1, h2.ext ex⟩
  · by_cases zz : i = j
    · subst zz
      rw [List.getElem?_set_self hi] at e
      cases e
      exact ⟨a, us, hs, ⟨upd_same, z, o.nf, o.na, o.new⟩, r.ext ex⟩
    · rw [List.getElem?_set_ne zz] at e
      obtain ⟨b, ws, h1, h2, h3⟩ := bi.slo.own j zs e
      have hb : b ≠ a := fun q => zz (bi.slo.apart i j _ _ a h e hs (by rw [h1, q]))
      exact ⟨b, ws, h1, ⟨by rw [upd_ne hb]; exact h2.at_, h2.len, h2.nf, h2.na, h2.new⟩, h3.ext ex⟩
  · have key : ∀ {j : Nat} {zs : List D}, (ρ.set i (.own ys))[j]? = some (.own zs) → ∃ zs', ρ[j]? = some (.own zs') := fun {j zs} e => by
      by_cases z : i = j
      · subst z; exact ⟨xs, h⟩
      · rw [List.getElem?_set_ne z] at e; exact ⟨zs, e⟩
    obtain ⟨z1, f1⟩ := key e1
    obtain ⟨z2, f2⟩ := key e2
    exact bi.slo.apart j l z1 z2 b f1 f2 e3 e4
/-- it is fixed -/
theorem BI.ownFrz {as : List Addr} {F : Addr → Prop} {M : Mem} {ρ : Ev.Env} (bi : BI K cls as0 F0 H0 as F M ρ σ H) {i : Nat} {xs : List D} (h : ρ[i]? = some (.own xs)) : ∃ F', Ext as F H as F' H ∧ BI K cls as0 F0 H0 as F' M (ρ.set i (.val (.lst xs))) σ H := by
  obtain ⟨a, vs, hs, o, r⟩ := bi.slo.own i xs h
  have hi : i < ρ.length := (List.getElem?_eq_some_iff.mp h).1
  have ex : Ext as F H as (fun b => F b ∨ b = a) H := ⟨fun _ _ h => h, fun _ h => .inl h, fun _ _ _ h => h, fun _ _ h _ => h⟩
  refine ⟨fun b => F b ∨ b = a, ex, ⟨bi.stp.pre, fun b h => .inl (bi.stp.fr b h), fun b h => ?_, bi.stp.keep, bi.stp.keepF, bi.stp.keepI, bi.stp.dom⟩,
    ⟨bi.mem.len, bi.mem.nd, fun b hb z => ?_, fun b z => ?_, fun j mo b g1 g2 => (bi.mem.ob j mo b g1 g2).ext ex rfl⟩, ⟨by rw [List.length_set]; exact bi.slo.len, fun j d e => ?_, fun j zs e => ?_, fun j l zs ws b e1 e2 e3 e4 => ?_⟩⟩
  · rcases h with h | h
    · exact bi.stp.newF b h
    · exact .inr (by rw [h]; exact o.new)
  · rcases z with z | z
    · exact bi.mem.nf b hb z
    · exact o.na (by rw [← z]; exact hb)
  · rcases z with z | z
    · exact bi.mem.fd b z
    · rw [z, o.at_]; simp
  · by_cases z : i = j
    · subst z
      rw [List.getElem?_set_self hi] at e
      cases e
      exact ⟨_, hs, .lst (.inl ⟨.inr rfl, o.at_⟩) o.len (r.ext ex)⟩
    · rw [List.getElem?_set_ne z] at e
      obtain ⟨v, h1, h2⟩ := bi.slo.val j d e
      exact ⟨v, h1, h2.ext ex⟩
  · by_cases zz : i = j
    · subst zz
      rw [List.getElem?_set_self hi] at e
      cases e
    · rw [List.getElem?_set_ne zz] at e
      obtain ⟨b, ws, h1, h2, h3⟩ := bi.slo.own j zs e
      refine ⟨b, ws, h1, ⟨h2.at_, h2.len, fun q => ?_, h2.na, h2.new⟩, h3.ext ex⟩
      rcases q with q | q
      · exact h2.nf q
      · exact zz (bi.slo.apart i j _ _ a h e hs (by rw [h1, q]))
  · have key : ∀ {j : Nat} {zs : List D}, (ρ.set i (.val (.lst xs)))[j]? = some (.own zs) → ρ[j]? = some (.own zs) := fun {j zs} e => by
      by_cases z : i = j
      · subst z
        rw [List.getElem?_set_self hi] at e
        cases e
      · rw [List.getElem?_set_ne z] at e; exact e
    exact bi.slo.apart j l zs ws b (key e1) (key e2) e3 e4
/-- a name gets a new list of its own -/
theorem BI.ownNew {as : List Addr} {F : Addr → Prop} {M : Mem} {ρ : Ev.Env} (bi : BI K cls as0 F0 H0 as F M ρ σ H) {i : Nat} {xs : List D} {p : Addr} {vs : List V} (hi : i < ρ.length) (o : Own H0 as F H p vs) (r : Rps K F as H xs vs)
    (ne : ∀ (j : Nat) (ys : List D), ρ[j]? = some (.own ys) → σ[j]? ≠ some (some (V.ref p))) : BI K cls as0 F0 H0 as F M (ρ.set i (.own xs)) (σ.set i (some (V.ref p))) H := by
  have hi' : i < σ.length := by rw [← bi.slo.len]; exact hi
  refine ⟨bi.stp, bi.mem, ⟨by rw [List.length_set, List.length_set]; exact bi.slo.len, fun j d e => ?_, fun j zs e => ?_, fun j l zs ws b e1 e2 e3 e4 => ?_⟩⟩
  · by_cases z : i = j
    · subst z
      rw [List.getElem?_set_self hi] at e
      cases e
    · rw [List.getElem?_set_ne z] at e
      rw [List.getElem?_set_ne z]
      exact bi.slo.val j d e
  · by_cases z : i = j
    · subst z
      rw [List.getElem?_set_self hi] at e
      cases e
      exact ⟨p, vs, by rw [List.getElem?_set_self hi'], o, r⟩
    · rw [List.getElem?_set_ne z] at e
      rw [List.getElem?_set_ne z]
      exact bi.slo.own j zs e
  · by_cases z : i = j
    · subst z
      by_cases z2 : i = l
      · exact z2
      · rw [List.getElem?_set_ne z2] at e2 e4
        rw [List.getElem?_set_self hi'] at e3
        cases e3
        exact absurd e4 (ne l ws e2)
    · by_cases z2 : i = l
      · subst z2
        rw [List.getElem?_set_ne z] at e1 e3
        rw [List.getElem?_set_self hi'] at e4
        cases e4
        exact absurd e3 (ne j zs e1)
      · rw [List.getElem?_set_ne z] at e1 e3
        rw [List.getElem?_set_ne z2] at e2 e4
        exact bi.slo.apart j l zs ws b e1 e2 e3 e4
end
end Ev

set_option maxRecDepth 100000
set_option maxHeartbeats 8000000
/-! Ev16: expressions that give a new list; is this text that block? -/
namespace Ev
open PySem PySem.Spec PyProof.Rows L2

/-- the reading of an expression whose value is a new list -/
def rdF (K : PySem.W.Frag) (cls : Nat → Addr) (as0 : List Addr) (F0 : Addr → Prop) (H0 : Hp) (W : L2.St → XW) (f : Ev.Env → Mem → Res D) : TE := fun σ H Q => rd K cls as0 F0 H0 W (RF K H0 H) f σ H Q
section
variable {cls : Nat → Addr} {T : Txt} {C : Ctx} {k : Nat} {as0 : List Addr} {F0 : Addr → Prop} {H0 : Hp}
theorem none_back {as as' : List Addr} {F F' : Addr → Prop} {H H' : Hp} (s : Stp as F H as' F' H') {a : Addr} (h : H' a = none) : H a = none := by
  cases e : H a with
  | none => rfl
  | some o => exact absurd h (s.dom a (by rw [e]; simp))
theorem OutG.newO {K : PySem.W.Frag} {W : XW} {as : List Addr} {F : Addr → Prop} {H Hs : Hp} {M : Mem} {xs : List D} {vs : List V} {Q : VK} (h : OutG K cls (RF K H0 Hs) W (.ok (.lst xs) M) as F H Q) (m : MemOk K cls as F M H) (r : Rps K F as H xs vs) (z : vs.length ≤ sizeLine)
    (h0 : ∀ a, H a = none → H0 a = none) (hs : ∀ a, H a = none → Hs a = none) : ∀ p, H p = none → Q (.ref p) (upd H p (.lst vs)) := fun p hp =>
  h as F (.ref p) _ (Stp.laid hp) (m.laid hp) ⟨p, vs, xs, rfl, rfl, ⟨upd_same, z, fun f => m.fd p f hp, fun ha => m.there ha hp, h0 p hp⟩, r.step (Stp.laid hp), hs p hp⟩
theorem fr_lst {X : Cx} {W : L2.St → XW} {es : E} {xs : List Expr} {p : Pos} (ha : PA X xs (rd X.K cls as0 F0 H0 W (RPs X.K) (evs C es))) : PE X (.List xs p) (rdF X.K cls as0 F0 H0 W (ev C (.lst es))) := by
  refine (pe_lst ha).imp fun σ H Q q => ?_
  obtain ⟨as, F, M, ρ, bi, q⟩ := q
  replace q : OutG X.K cls (RF X.K H0 H) (W σ) ((evs C es ρ M).bind fun ds M => if ds.length ≤ big then .ok (.lst ds) M else .bad) as F H Q := q
  refine ⟨as, F, M, ρ, bi, (OutG.bind (R := RPs X.K) q).imp fun vs H1 ⟨as1, F1, M1, ds, s1, m1, r, h⟩ => ?_⟩
  have e := r.length
  split at h
  · rename_i hz
    have z : vs.length ≤ sizeLine := by rw [← big_line, ← e]; exact hz
    exact ⟨z, h.newO m1 r z (fun a ha => none_back (bi.stp.trans s1) ha) (fun a ha => none_back s1 ha)⟩
  · exact h.elim
theorem fr_comp {X : Cx} {W : L2.St → XW} (G : Good X cls T C k W) {vs : List Nat} {t : Tg} {it c e : E} {a : Expr} (h : chkE T X.N X.env.scope (.comp vs t it c e) a = true) : PE X a (rdF X.K cls as0 F0 H0 W (ev C (.comp vs t it c e))) := by
  cases a with
  | ListComp elt gs scope p =>
    match gs, h with
    | [⟨tg, iter, ifs, n⟩], h =>
      by_cases hn : n = 0
      · subst hn
        simp only [chkE, Bool.and_eq_true, decide_eq_true_eq] at h
        obtain ⟨⟨⟨⟨⟨⟨h1, h2⟩, h3⟩, h4⟩, h5⟩, h6⟩, h7⟩ := h
        have ok := blkOk_by h1
        obtain ⟨hi, hset⟩ := sndI (as0 := as0) (F0 := F0) (H0 := H0) it G (tg := tg) h4
        have key := pe_lc (X := X) (pos := p) (elt := elt) (g := gTg X.K t) (te := rd X.K cls as0 F0 H0 (fun _ => W0) (RP X.K) (ev C e)) (own := ownOfVs X.N vs) G.calm G.nd hi ok
          (fun s H c cl fp => pg_tg (X := X.blk s H scope (compEnvC scope cl c X.env) fp) G.nd G.calm stores_blk h5)
          (tt := rd X.K cls as0 F0 H0 (fun _ => W0) RB (tst c.isNil (ev C c)))
          (fun s H c' cl fp => pts_of (X := X.blk s H scope (compEnvC scope cl c' X.env) fp) h6 fun y hy => ptO hy (fun h => sndE c (G.blk s H scope (compEnvC scope cl c' X.env) fp) h) (fun t _ h => sndTF c t (G.blk s H scope (compEnvC scope cl c' X.env) fp) h))
          (fun s H c' cl fp => sndE e (G.blk s H scope (compEnvC scope cl c' X.env) fp) h7)
          (folded_of hset)
        rw [ownOfVs_snd] at key
        refine key.imp fun σ H Q q => comp_redG (R := RF X.K H0 H) h2 (fun as1 F1 H1 as2 F2 H2 M2 D ys acc s0 hn s2 m2 hacc nF nA hD r z h2 => ?_) q
        exact h2 as2 F2 (.ref D) H2 s2 m2 ⟨D, acc, ys, rfl, rfl, ⟨hacc, z, nF, nA, none_back s0 hD⟩, r, hn D hD⟩
      · simp [chkE, hn] at h
    | [], h => simp [chkE] at h
    | _ :: _ :: _, h => simp [chkE] at h
  | _ => simp [chkE] at h
/-- list(x) -/
theorem fr_list {X : Cx} {W : L2.St → XW} (G : Good X cls T C k W) {es : E} {a : Expr} (h : chkE T X.N X.env.scope (.bi .list es) a = true) : PE X a (rdF X.K cls as0 F0 H0 W (ev C (.bi .list es))) := by
  cases a with
  | Call fn xs kw p =>
    cases fn with
    | Name x p' =>
      cases kw with
      | nil =>
        simp only [chkE, Bool.and_eq_true, beq_iff_eq] at h
        obtain ⟨⟨⟨h1, h2⟩, h4⟩, h3⟩ := h
        subst h1
        cases xs with
        | nil => cases h4
        | cons y ys =>
          obtain ⟨pa, pl⟩ := sndO (as0 := as0) (F0 := F0) (H0 := H0) es G h3
          have hy := pl y List.mem_cons_self
          have hpl := plain_of (env := X.env) (xs := ys) (fun z hz => pl z (List.mem_cons_of_mem _ hz))
          refine (pe_callTy (x := biName .list) call_list_of (gl_of h2) (bi_free G .list) (by decide +kernel) pa (by decide) (by decide) (starEach_ne hy) (hpl _)).imp fun σ H Q q => ?_
          obtain ⟨as, F, M, ρ, bi, q⟩ := q
          replace q : OutG X.K cls (RF X.K H0 H) (W σ) ((evs C es ρ M).bind fun ds M => lift (biQ M .list ds) M) as F H Q := q
          refine ⟨as, F, M, ρ, bi, (OutG.bind (R := RSs X.K) q).imp fun vs H1 ⟨as1, F1, M1, ds, s1, m1, r, h⟩ => ?_⟩
          obtain ⟨d, e, h'⟩ := h.lift
          obtain ⟨d1, rfl⟩ := bi1 (fun d _ _ => by cases d <;> rfl) rfl e
          obtain ⟨x, rfl, sx⟩ := r.one
          have n0 : ∀ a, H1 a = none → H0 a = none := fun a ha => none_back (bi.stp.trans s1) ha
          have ns : ∀ a, H1 a = none → H a = none := fun a ha => none_back s1 ha
          cases d1 with
          | lst ys =>
            cases e
            obtain ⟨p, vs, rfl, l, z, rp⟩ := sx.lst
            exact ⟨p, vs, rfl, .inl l.sq, h'.newO m1 rp z n0 ns⟩
          | tup ys =>
            cases e
            obtain ⟨p, vs, rfl, l, z, rp⟩ := sx.tup
            exact ⟨p, vs, rfl, .inr l, h'.newO m1 rp z n0 ns⟩
          | _ => cases e
      | cons _ _ => simp [chkE] at h
    | _ => simp [chkE] at h
  | _ => simp [chkE] at h
/-- xs + ys of lists -/
theorem opr_cat {X : Cx} : OpR X (binaryOp .Add) (fun x y H Q => ∃ p vs q us, x = .ref p ∧ y = .ref q ∧ LsE X.K H p vs ∧ LsE X.K H q us ∧ vs.length + us.length ≤ sizeLine ∧ ∀ l, H l = none → Q (.ref l) (upd H l (.lst (vs ++ us)))) := by
  intro pins s σ H x y v u Q I rx ry h
  obtain ⟨p, vs, q, us, rfl, rfl, l1, l2, hz, hq⟩ := h
  cases rx
  cases ry
  obtain ⟨its, n, rv, e, _⟩ := Inv.ls I l1
  obtain ⟨its2, n2', rv2, e2, _⟩ := Inv.ls I l2
  have q1 := rv.length
  have q2 := rv2.length
  refine PySem.P.add_list e e2 ?_ (by rw [List.size_toArray, List.size_toArray]; omega)
  have ea : its.toArray ++ its2.toArray = (its ++ its2).toArray := by simp
  rw [ea]
  exact ⟨.ref _, _, I.lnew (t' := s.toks) (rv.append rv2) (by rw [List.length_append]; omega), rfl, hq _ I.fresh⟩
def catQ (x y : D) : Option D := match x, y with
  | .lst x, .lst y => if x.length + y.length ≤ big then some (.lst (x ++ y)) else none
  | _, _ => none
theorem fr_cat_fin {K : PySem.W.Frag} {W : XW} {as : List Addr} {F : Addr → Prop} {H Hs : Hp} {M : Mem} {xs ys : List D} {d : D} {v u : V} {Q : VK} (n0 : ∀ a, H a = none → H0 a = none) (ns : ∀ a, H a = none → Hs a = none) (m : MemOk K cls as F M H)
    (r1 : Sh K F as H (.lst xs) v) (r2 : Sh K F as H (.lst ys) u) (e : catQ (.lst xs) (.lst ys) = some d) (h : OutG K cls (RF K H0 Hs) W (.ok d M) as F H Q) :
    ∃ p vs q us, v = .ref p ∧ u = .ref q ∧ LsE K H p vs ∧ LsE K H q us ∧ vs.length + us.length ≤ sizeLine ∧ ∀ l, H l = none → Q (.ref l) (upd H l (.lst (vs ++ us))) := by
  have e : (if xs.length + ys.length ≤ big then some (D.lst (xs ++ ys)) else none) = some d := e
  split at e
  · rename_i hz
    cases e
    obtain ⟨p, vs, rfl, l1, z1, rr1⟩ := Sh.lst r1
    obtain ⟨q, us, rfl, l2, z2, rr2⟩ := Sh.lst r2
    have n1 := rr1.length
    have n2 := rr2.length
    have hb := big_line
    exact ⟨p, vs, q, us, rfl, rfl, l1, l2, by omega, h.newO m (rr1.append rr2) (by rw [List.length_append]; omega) n0 ns⟩
  · cases e
theorem fr_cat {X : Cx} {W : L2.St → XW} (G : Good X cls T C k W) {x y : E} {a : Expr} (h : chkE T X.N X.env.scope (.bin .add x y) a = true) : PE X a (rdF X.K cls as0 F0 H0 W (fun ρ M => (ev C x ρ M).bind fun x M => (ev C y ρ M).bind fun y M => lift (catQ x y) M)) := by
  cases a with
  | BinOp x' o y' p =>
    simp only [chkE, Bool.and_eq_true, beq_iff_eq] at h
    obtain ⟨⟨h1, h2⟩, h3⟩ := h
    subst h1
    refine (pe_op (op := opOf .add) opr_cat (snd_o h2 (sndE (as0 := as0) (F0 := F0) (H0 := H0) x G)) (snd_o h3 (sndE (as0 := as0) (F0 := F0) (H0 := H0) y G))).imp fun σ H Q q => ?_
    obtain ⟨as, F, M, ρ, bi, q⟩ := q
    refine ⟨as, F, M, ρ, bi, (OutG.bind (R := RS X.K) q).imp fun v H1 ⟨as1, F1, M1, d1, s1, m1, r1, h⟩ => ?_⟩
    refine ⟨as1, F1, M1, ρ, bi.step s1 m1, (OutG.bind (R := RS X.K) h).imp fun u H2 ⟨as2, F2, M2, d2, s2, m2, r2, h⟩ => ?_⟩
    obtain ⟨d, e, h'⟩ := h.lift
    have s12 := s1.trans s2
    have r1 := Sh.step s2 r1
    cases d1 with
    | lst xs =>
     cases d2 with
     | lst ys =>
      refine fr_cat_fin (n0 := fun a ha => none_back (bi.stp.trans s12) ha) (ns := fun a ha => none_back s12 ha) m2 r1 r2 e h'
     | _ => cases e
    | _ => cases e
  | _ => simp [chkE] at h
end

def isCompE : Expr → Bool
  | .ListComp _ _ _ _ => true
  | .SetComp _ _ _ _ => true
  | .DictComp _ _ _ _ _ => true
  | _ => false
def isTupE : Expr → Bool
  | .Tuple _ _ _ => true
  | _ => false
/-- expressions that give a new list -/
def isFr : E → Bool
  | .lst _ => true
  | .comp _ _ _ _ _ => true
  | .bi .list _ => true
  | .bin .add _ _ => true
  | _ => false
/-- x = [..] is done within the comprehension's frame -/
def lcSw (sc : Scope) (y : Str) (py : Pos) : Expr → Bool
  | .ListComp _ _ s p => (match sc.names.lookup y with | some .local => true | _ => false) && (py.line == p.line) && !(s.names.any fun (n, k) => n == y && (k == .local || k == .cell))
  | _ => false
def mthB (m : Str) (N : List Str) (sc : Scope) (i : Nat) : Expr → Pos → Bool
  | .Attribute (.Name x p) a p1, p2 => a == m && varB N sc i (.Name x p) && (p1.endLine == p2.line)
  | _, _ => false
mutual
def chkS (T : Txt) (N : List Str) (sc : Scope) : S → Stmt → Bool
  | .skip, .Pass _ => true
  | .expr e, .Expr a _ => !isCompE a && chkE T N sc e a
  | .set t e, .Assign [tg] a _ => tgB N sc t tg && chkE T N sc e a && (match tg with
    | .Name y p => !isCompE a || lcSw sc y p a
    | _ => !isCompE a && !isTupE a)
  | .setO i e, .Assign [.Name y p] a _ => tgB N sc (.nm i) (.Name y p) && isFr e && chkE T N sc e a && (!isCompE a || lcSw sc y p a)
  | .app i e, .Expr (.Call f [y] [] p2) _ => mthB ("append" : Str) N sc i f p2 && !isStar y && chkE T N sc e y
  | .ite c a b, .If x y z _ => (borB N sc c x || chkE T N sc c x) && chkSs T N sc a y && chkSs T N sc b z
  | .for_ t it b, .For tg iter body [] _ => tgB N sc t tg && chkI T N sc it iter && !itBor it && chkSs T N sc b body
  | .while c b, .While x body [] _ => (borB N sc c x || chkE T N sc c x) && chkSs T N sc b body
  | .ret e, .Return (some a) _ => chkE T N sc e a
  | .retN, .Return none _ => true
  | .cont, .Continue _ => true
  | _, _ => false
termination_by structural s => s
def chkSs (T : Txt) (N : List Str) (sc : Scope) : S → List Stmt → Bool
  | .skip, [] => true
  | .seq a r, xs => match a.isGhost, xs with
    | true, xs => chkSs T N sc r xs
    | false, x :: xs => chkS T N sc a x && chkSs T N sc r xs
    | false, [] => false
  | _, _ => false
termination_by structural s => s
end
end Ev

set_option maxRecDepth 100000
set_option maxHeartbeats 8000000
/-! Ev17: every statement. -/
namespace Ev
open PySem PySem.Spec PyProof.Rows L2

theorem _root_.L2.PS.imp {X : Cx} {e : Stmt} {t t' : TS} (h : PS X e t) (k : ∀ D σ H, t' D σ H → t D σ H) : PS X e t' := ⟨fun pins s σ H D I q => h.run pins s σ H D I (k D σ H q)⟩
theorem _root_.L2.PSs.imp {X : Cx} {e : List Stmt} {t t' : TS} (h : PSs X e t) (k : ∀ D σ H, t' D σ H → t D σ H) : PSs X e t' := ⟨fun pins s σ H D I q => h.run pins s σ H D I (k D σ H q)⟩
theorem swaps_no {e : Expr} {tg : Option Expr} {l : Nat} {env : PySem.Env} (h : isCompE e = false) : swapsWith e tg l env = pure false := by
  cases e <;> first | rfl | cases h
theorem swapped_no {e : Expr} {xs : List Expr} {k : Nat} {p : Pos} {env : PySem.Env} (h : isTupE e = false) : swappedStores [.Tuple xs k p] e env = pure none := by
  cases e <;> first | rfl | cases h

/-- what holds of a def's body beside Good -/
structure GoodS (X : Cx) (cls : Nat → Addr) (T : Txt) (C : Ctx) (k : Nat) (W : L2.St → XW) : Prop where
  g : Good X cls T C k W
  st : Stores X X.env.scope
  po : PassesOwn (model X.prog X.w) X.A X.env X.xe
  kind : X.env.scope.kind = .function

section
variable {cls : Nat → Addr} {T : Txt} {C : Ctx} {k fu : Nat} {as0 : List Addr} {F0 : Addr → Prop} {H0 : Hp}

theorem lcSw_of {X : Cx} {y : Str} {py : Pos} {elt : Expr} {gs : List Comprehension} {scope : Scope} {p : Pos} {l : Nat} (hk : X.env.scope.kind = .function) (h : lcSw X.env.scope y py (.ListComp elt gs scope p) = true) :
    X.env.scope.names.lookup y = some .local ∧ swapsWith (.ListComp elt gs scope p) (some (.Name y py)) l X.env = pure true := by
  simp only [lcSw, Bool.and_eq_true, Bool.not_eq_true'] at h
  obtain ⟨⟨h1, h2⟩, h3⟩ := h
  have hy : X.env.scope.names.lookup y = some .local := by
    split at h1
    · assumption
    · cases h1
  exact ⟨hy, sw_true hk hy h2 h3⟩
/-- name = [e for ..] -/
theorem ps_lcG {X : Cx} {W : L2.St → XW} (G : GoodS X cls T C k W) {i : Nat} {y : Str} {py spos : Pos} {vs : List Nat} {t : Tg} {it c e : E} {a : Expr} (hi : X.N[i]? = some y) (h : chkE T X.N X.env.scope (.comp vs t it c e) a = true) (hs : lcSw X.env.scope y py a = true)
    {te : TE} (red : ∀ σ H Q, te σ H Q → tLc (rd X.K cls as0 F0 H0 W (RI X.K cls (itBor it)) (evI C it)) (gTg X.K t) (rd X.K cls as0 F0 H0 (fun _ => W0) RB (tst c.isNil (ev C c))) (rd X.K cls as0 F0 H0 (fun _ => W0) (RP X.K) (ev C e)) vs σ H Q) :
    PS X (.Assign [.Name y py] a spos) (tAsg te (gName i)) := by
  cases a with
  | ListComp elt gs scope p =>
    match gs, h with
    | [⟨tg, iter, ifs, n⟩], h =>
      by_cases hn : n = 0
      · subst hn
        simp only [chkE, Bool.and_eq_true, decide_eq_true_eq] at h
        obtain ⟨⟨⟨⟨⟨⟨h1, h2⟩, h3⟩, h4⟩, h5⟩, h6⟩, h7⟩ := h
        have ok := blkOk_by h1
        obtain ⟨hyl, hsw⟩ := lcSw_of (l := spos.line) G.kind hs
        obtain ⟨hit, hset⟩ := sndI (as0 := as0) (F0 := F0) (H0 := H0) it G.g (tg := tg) h4
        have key := ps_setLc (X := X) (pos := p) (spos := spos) (i := i) (y := y) (py := py) (elt := elt) (g := gTg X.K t) (te := rd X.K cls as0 F0 H0 (fun _ => W0) (RP X.K) (ev C e)) (own := ownOfVs X.N vs) G.g.calm G.g.nd hi hyl hsw hit ok
          (fun s H c cl fp => pg_tg (X := X.blk s H scope (compEnvC scope cl c X.env) fp) G.g.nd G.g.calm stores_blk h5)
          (tt := rd X.K cls as0 F0 H0 (fun _ => W0) RB (tst c.isNil (ev C c)))
          (fun s H c' cl fp => pts_of (X := X.blk s H scope (compEnvC scope cl c' X.env) fp) h6 fun y hy => ptO hy (fun h => sndE c (G.g.blk s H scope (compEnvC scope cl c' X.env) fp) h) (fun t _ h => sndTF c t (G.g.blk s H scope (compEnvC scope cl c' X.env) fp) h))
          (fun s H c' cl fp => sndE e (G.g.blk s H scope (compEnvC scope cl c' X.env) fp) h7)
          (folded_of hset)
        rw [ownOfVs_snd] at key
        exact key.imp fun D σ H q => red σ H _ q
      · simp [chkE, hn] at h
    | [], h => simp [chkE] at h
    | _ :: _ :: _, h => simp [chkE] at h
  | _ => simp [lcSw] at hs

/-- the store of a value -/
theorem set_red {X : Cx} {W : L2.St → XW} {t : Tg} {e : E} {D' : Ends} {σ : L2.St} {H : Hp} (q : rdS X.K cls as0 F0 H0 W (ex C fu (.set t e)) D' σ H) :
    tAsg (rd X.K cls as0 F0 H0 W (RP X.K) (ev C e)) (gTg X.K t) D' σ H := by
  refine (rdS.bind (R := RP X.K) (f := ev C e) (g := fun x ρ M => (lift (setTg t x ρ) M).bind fun ρ M => .ok (.next, ρ) M) q).imp fun v H1 ⟨as, F, M, ρ, d, bi, r, h⟩ => ?_
  obtain ⟨ρ', e1, h⟩ := h.lift_bind
  refine tg_red (vs := match t with | .nm i => [i] | .tp is => is) bi.slo r e1 (by cases t <;> simp [tgOk]) .refl fun σ' sl _ => h.next ⟨bi.stp, bi.mem, sl⟩
/-- the store of a new list -/
theorem setO_red {X : Cx} {W : L2.St → XW} {i : Nat} {f : Ev.Env → Mem → Res D} {D' : Ends} {σ : L2.St} {H : Hp} (q : rdS X.K cls as0 F0 H0 W (fun ρ M => (f ρ M).bind fun x M => match x with
    | .lst xs => if i < ρ.length then .ok (.next, ρ.set i (.own xs)) M else .bad
    | _ => .bad) D' σ H) : tAsg (rdF X.K cls as0 F0 H0 W f) (gName i) D' σ H := by
  refine (rdS.bindF (R := RF X.K H0 H) (f := f) (g := fun x ρ M => match x with
    | .lst xs => if i < ρ.length then .ok (.next, ρ.set i (.own xs)) M else .bad
    | _ => .bad) q).imp fun v H1 ⟨as, F, M, ρ, d, bi, ⟨p, vs, xs, e1, e2, o, r, hn⟩, h, own⟩ => ?_
  subst e1 e2
  replace h : OutS X.K cls as0 F0 H0 W as F H1 (if i < ρ.length then .ok (.next, ρ.set i (.own xs)) M else .bad) D' := h
  split at h
  · rename_i hi
    exact h.next (bi.ownNew hi o r fun j ys e1 e2 => own j ys p e1 e2 hn)
  · exact h.elim
theorem mth_of {N : List Str} {sc : Scope} {m : Str} {i : Nat} {f : Expr} {p2 : Pos} (h : mthB m N sc i f p2 = true) : ∃ x p p1, f = .Attribute (.Name x p) m p1 ∧ varB N sc i (.Name x p) = true ∧ (p1.endLine == p2.line) = true := by
  cases f with
  | Attribute o a p1 =>
    cases o with
    | Name x p =>
      simp only [mthB, Bool.and_eq_true, beq_iff_eq] at h
      obtain ⟨⟨rfl, h2⟩, h3⟩ := h
      exact ⟨x, p, p1, rfl, h2, by simpa using h3⟩
    | _ => simp [mthB] at h
  | _ => simp [mthB] at h
theorem pv_of {X : Cx} {i : Nat} {x : Str} {p : Pos} (h : varB X.N X.env.scope i (.Name x p) = true) : PE X (.Name x p) (tVar i) := by
  simp only [varB, Bool.and_eq_true, decide_eq_true_eq] at h
  obtain ⟨⟨h1, h2⟩, h3⟩ := h
  obtain ⟨n1, n2, _⟩ := nameOk_of h3
  exact pe_var h1 (vis_of h2) n1 n2

mutual
theorem sndS : ∀ (s : S) {X : Cx} {W : L2.St → XW} {st : Stmt}, GoodS X cls T C k W → chkS T X.N X.env.scope s st = true → PS X st (rdS X.K cls as0 F0 H0 W (ex C fu s))
  | .skip, X, W, st, G, h => by
    cases st with
    | Pass p =>
      refine ps_pass.imp fun D' σ H ⟨as, F, M, ρ, bi, q⟩ => ?_
      exact OutS.next (M := M) (ρ := ρ) q bi
    | _ => exact absurd h Bool.false_ne_true
  | .seq _ _, X, W, st, G, h => by exact absurd h Bool.false_ne_true
  | .frz _, X, W, st, G, h => by exact absurd h Bool.false_ne_true
  | .ext _ _, X, W, st, G, h => by exact absurd h Bool.false_ne_true
  | .ins _ _ _, X, W, st, G, h => by exact absurd h Bool.false_ne_true
  | .put _ _ _, X, W, st, G, h => by exact absurd h Bool.false_ne_true
  | .rev _, X, W, st, G, h => by exact absurd h Bool.false_ne_true
  | .popO _ _, X, W, st, G, h => by exact absurd h Bool.false_ne_true
  | .expr e, X, W, st, G, h => by
    cases st with
    | Expr a p =>
      simp only [chkS, Bool.and_eq_true, Bool.not_eq_true'] at h
      refine (ps_expr (sndE (as0 := as0) (F0 := F0) (H0 := H0) e G.g h.2) (swaps_no h.1)).imp fun D' σ H q => ?_
      exact (rdS.bind (R := RP X.K) (f := ev C e) (g := fun _ ρ M => .ok (.next, ρ) M) q).imp fun v H1 ⟨as, F, M, ρ, d, bi, r, h⟩ => OutS.next (M := M) (ρ := ρ) h bi
    | _ => exact absurd h Bool.false_ne_true
  | .set t e, X, W, st, G, h => by
    cases st with
    | Assign tgs a p =>
      match tgs, h with
      | [], h => exact absurd h Bool.false_ne_true
      | _ :: _ :: _, h => exact absurd h Bool.false_ne_true
      | [tg], h =>
        simp only [chkS, Bool.and_eq_true] at h
        obtain ⟨⟨h1, h2⟩, h3⟩ := h
        have pg := pg_tg (sc := X.env.scope) G.g.nd G.g.calm G.st h1
        by_cases hc : isCompE a = true
        · cases tg with
          | Name y py =>
            simp only [hc, Bool.not_true, Bool.false_or] at h3
            cases t with
            | tp is => simp [tgB] at h1
            | nm i =>
              simp only [tgB, Bool.and_eq_true, decide_eq_true_eq] at h1
              cases e with
              | comp vs t' it c e' =>
                have ht : tgOk t' vs = true := by
                  cases a <;> first | (cases hc; done) | skip
                  · rename_i elt gs scope p'
                    match gs, h2 with
                    | [⟨tg, iter, ifs, n⟩], h2 =>
                      by_cases hn : n = 0
                      · subst hn
                        simp only [chkE, Bool.and_eq_true, decide_eq_true_eq] at h2
                        exact h2.1.1.1.1.1.2
                      · simp [chkE, hn] at h2
                    | [], h2 => simp [chkE] at h2
                    | _ :: _ :: _, h2 => simp [chkE] at h2
                  · simp [chkE] at h2
                  · simp [chkE] at h2
                exact (ps_lcG (as0 := as0) (F0 := F0) (H0 := H0) G h1.1 h2 h3 (te := rd X.K cls as0 F0 H0 W (RP X.K) (ev C (.comp vs t' it c e'))) fun σ H Q q => comp_red ht q).imp fun D' σ H q => set_red q
              | _ => cases a <;> first | (cases hc; done) | (simp [chkE, varB] at h2; done)
          | _ => simp [hc] at h3
        · have hc : isCompE a = false := by simpa using hc
          have hasg : (assignEach [tg] X.env).map (·.2) = [assign tg X.env] := by cases tg <;> first | rfl | (cases t <;> simp [tgB] at h1)
          have hsw : swappedStores [tg] a X.env = pure none := by
            cases tg with
            | Name y py => cases a <;> rfl
            | Tuple xs kk pt =>
              simp only [hc, Bool.not_false, Bool.true_and, Bool.not_eq_true'] at h3
              exact swapped_no h3
            | _ => cases t <;> simp [tgB] at h1
          exact (ps_asg (sndE (as0 := as0) (F0 := F0) (H0 := H0) e G.g h2) pg (show swapsWith a (some tg) p.line X.env = pure false from swaps_no hc) hsw hasg).imp fun D' σ H q => set_red q
    | _ => exact absurd h Bool.false_ne_true
  | .setO i e, X, W, st, G, h => by
    cases st with
    | Assign tgs a p =>
      match tgs, h with
      | [], h => exact absurd h Bool.false_ne_true
      | tg :: _ :: _, h => cases tg <;> exact absurd h Bool.false_ne_true
      | [tg], h =>
        cases tg with
        | Name y py =>
          simp only [chkS, Bool.and_eq_true] at h
          obtain ⟨⟨⟨h1, h2⟩, h3⟩, h4⟩ := h
          simp only [tgB, Bool.and_eq_true, decide_eq_true_eq] at h1
          obtain ⟨hl, hf⟩ := G.st y h1.2
          have simple : ∀ {f : Ev.Env → Mem → Res D}, PE X a (rdF X.K cls as0 F0 H0 W f) → isCompE a = false → PS X (.Assign [.Name y py] a p) (tAsg (rdF X.K cls as0 F0 H0 W f) (gName i)) :=
            fun {f} pe hc => ps_set G.g.nd h1.1 hl pe (swaps_no hc) hf
          cases e <;> first | (cases h2; done) | skip
          · rename_i es
            cases a with
            | List xs p' => exact (simple (fr_lst (sndA es G.g (by simpa only [chkE] using h3)).1) rfl).imp fun D' σ H q => setO_red q
            | _ => simp [chkE] at h3
          · rename_i op x z
            cases op <;> first | (cases h2; done) | skip
            have hc : isCompE a = false := by cases a <;> first | rfl | (simp [chkE] at h3; done)
            refine (simple (fr_cat (as0 := as0) (F0 := F0) (H0 := H0) (W := W) G.g h3) hc).imp fun D' σ H q => ?_
            refine setO_red ?_
            obtain ⟨as, F, M, ρ, bi, q⟩ := q
            refine ⟨as, F, M, ρ, bi, ?_⟩
            replace q : OutS X.K cls as0 F0 H0 W as F H (((ev C x ρ M).bind fun x M => (ev C z ρ M).bind fun y M => lift (binQ .add x y) M).bind fun x M => match x with
              | .lst xs => if i < ρ.length then .ok (.next, ρ.set i (.own xs)) M else .bad
              | _ => .bad) D' := q
            show OutS X.K cls as0 F0 H0 W as F H (((ev C x ρ M).bind fun x M => (ev C z ρ M).bind fun y M => lift (catQ x y) M).bind fun x M => match x with
              | .lst xs => if i < ρ.length then .ok (.next, ρ.set i (.own xs)) M else .bad
              | _ => .bad) D'
            cases e1 : ev C x ρ M with
            | ok d1 M1 =>
              rw [e1] at q
              simp only [Res.bind] at q ⊢
              cases e2 : ev C z ρ M1 with
              | ok d2 M2 =>
                rw [e2] at q
                simp only [Res.bind] at q ⊢
                cases d1 <;> cases d2 <;> first | exact q | exact (show False from q).elim | skip
                · rename_i c1 c2
                  replace q : OutS X.K cls as0 F0 H0 W as F H ((lift (if c1.length + c2.length ≤ big then some (D.str (c1 ++ c2)) else none) M2).bind fun x M => match x with
                    | .lst xs => if i < ρ.length then .ok (.next, ρ.set i (.own xs)) M else .bad
                    | _ => .bad) D' := q
                  split at q <;> exact q
                · rename_i c1 c2
                  replace q : OutS X.K cls as0 F0 H0 W as F H ((lift (if c1.length + c2.length ≤ big then some (D.tup (c1 ++ c2)) else none) M2).bind fun x M => match x with
                    | .lst xs => if i < ρ.length then .ok (.next, ρ.set i (.own xs)) M else .bad
                    | _ => .bad) D' := q
                  split at q <;> exact q
              | exc c d M' => rw [e2] at q; exact q
              | bad => rw [e2] at q; exact q
            | exc c d M' => rw [e1] at q; exact q
            | bad => rw [e1] at q; exact q
          · rename_i b es
            cases b <;> first | (cases h2; done) | skip
            have hc : isCompE a = false := by cases a <;> first | rfl | (simp [chkE] at h3; done)
            exact (simple (fr_list (as0 := as0) (F0 := F0) (H0 := H0) (W := W) G.g h3) hc).imp fun D' σ H q => setO_red q
          · rename_i vs t it c e
            have hc : isCompE a = true := by cases a <;> first | rfl | (simp [chkE] at h3; done)
            simp only [hc, Bool.not_true, Bool.false_or] at h4
            have ht : tgOk t vs = true := by
              cases a <;> first | (cases hc; done) | skip
              · rename_i elt gs scope p'
                match gs, h3 with
                | [⟨tg, iter, ifs, n⟩], h3 =>
                  by_cases hn : n = 0
                  · subst hn
                    simp only [chkE, Bool.and_eq_true, decide_eq_true_eq] at h3
                    exact h3.1.1.1.1.1.2
                  · simp [chkE, hn] at h3
                | [], h3 => simp [chkE] at h3
                | _ :: _ :: _, h3 => simp [chkE] at h3
              · simp [chkE] at h3
              · simp [chkE] at h3
            refine (ps_lcG (as0 := as0) (F0 := F0) (H0 := H0) G h1.1 h3 h4 (te := rdF X.K cls as0 F0 H0 W (ev C (.comp vs t it c e))) fun σ H Q q => ?_).imp fun D' σ H q => setO_red q
            refine comp_redG (R := RF X.K H0 H) ht (fun as1 F1 H1 as2 F2 H2 M2 D ys acc s0 hn s2 m2 hacc nF nA hD r z h2 => ?_) q
            exact h2 as2 F2 (.ref D) H2 s2 m2 ⟨D, acc, ys, rfl, rfl, ⟨hacc, z, nF, nA, none_back s0 hD⟩, r, hn D hD⟩
        | _ => exact absurd h Bool.false_ne_true
    | _ => exact absurd h Bool.false_ne_true
  | .app i e, X, W, st, G, h => by
    cases st with
    | Expr a p =>
      cases a with
      | Call f xs kw p2 =>
        match xs, kw, h with
        | [y], [], h =>
          simp only [chkS, Bool.and_eq_true, Bool.not_eq_true'] at h
          obtain ⟨⟨h1, h2⟩, h3⟩ := h
          obtain ⟨x, px, p1, rfl, hv, hp⟩ := mth_of h1
          refine (ps_expr (pe_bm PySem.F.plainAttrs_list PySem.F.slot_list_append PySem.F.type_list_append mt_append (pv_of hv) (pa_cons (sndE (as0 := as0) (F0 := F0) (H0 := H0) (W := W) e G.g h3) pa_nil (starEach_ne h2)) rfl ?_ hp (starEach_ne h2) rfl) (swaps_no rfl)).imp fun D' σ H q => ?_
          · rw [starEach_ne h2]; rfl
          · obtain ⟨as, F, M, ρ, bi, q⟩ := q
            replace q : OutS X.K cls as0 F0 H0 W as F H ((lift (ownOf ρ i) M).bind fun xs M => (ev C e ρ M).bind fun x M => if xs.length < big then .ok (.next, ρ.set i (.own (xs ++ [x]))) M else .bad) D' := q
            obtain ⟨xs, e1, q⟩ := q.lift_bind
            obtain ⟨e2, hi, a, vs, hs, o, r⟩ := bi.ownAt e1
            refine ⟨.ref a, hs, .inl ⟨rfl, vs, .inl (.inl o.at_)⟩, ?_⟩
            refine ⟨as, F, M, ρ, bi, ?_⟩
            cases e3 : ev C e ρ M with
            | exc c d M' => rw [e3] at q; exact fun as' F' H' s m => q as' F' σ H' (bi.stp.trans s) m
            | bad => rw [e3] at q; exact q.elim
            | ok d M' =>
              rw [e3] at q
              replace q : OutS X.K cls as0 F0 H0 W as F H (if xs.length < big then .ok (.next, ρ.set i (.own (xs ++ [d]))) M' else .bad) D' := q
              intro as' F' v H' s m rv
              split at q
              · rename_i hz
                have o' := o.step s
                have r' := r.step s
                have hl := r.length
                have hb := big_line
                refine ⟨a, vs, v, rfl, rfl, o'.at_, by omega, ?_⟩
                exact q.nextE (s.ext.trans (Ext.own o'.at_ o'.nf)) ((bi.step s m).ownSet (ys := xs ++ [d]) (us := vs ++ [v]) e2 hs o' (r'.append (.cons rv .nil)) (by rw [List.length_append]; simp; omega))
              · exact q.elim
        | [], _, h => exact absurd h Bool.false_ne_true
        | _ :: _ :: _, _, h => exact absurd h Bool.false_ne_true
        | [_], _ :: _, h => exact absurd h Bool.false_ne_true
      | _ => exact absurd h Bool.false_ne_true
    | _ => exact absurd h Bool.false_ne_true
  | .ite c a b, X, W, st, G, h => by
    cases st with
    | If x y z p =>
      simp only [chkS, Bool.and_eq_true] at h
      obtain ⟨⟨h1, h2⟩, h3⟩ := h
      refine (ps_if (ptO (as0 := as0) (F0 := F0) (H0 := H0) (W := W) h1 (fun h => sndE c G.g h) (fun t _ h => sndTF c t G.g h)) (sndSs a G h2) (sndSs b G h3)).imp fun D' σ H q => ?_
      have e : ex C fu (.ite c a b) = fun ρ M => (tst false (ev C c) ρ M).bind fun k M => if k then ex C fu a ρ M else ex C fu b ρ M := by
        funext ρ M
        show ((ev C c ρ M).bind fun z M => (lift (z.tru M) M).bind fun k M => if k then ex C fu a ρ M else ex C fu b ρ M) = ((ev C c ρ M).bind fun z M => lift (z.tru M) M).bind fun k M => if k then ex C fu a ρ M else ex C fu b ρ M
        cases ev C c ρ M <;> rfl
      rw [e] at q
      refine (rdS.bind (R := RB) (f := tst false (ev C c)) (g := fun k ρ M => if k then ex C fu a ρ M else ex C fu b ρ M) q).imp fun v H1 ⟨as, F, M, ρ, d, bi, r, h⟩ => ?_
      have r : d = v := r
      subst r
      cases d with
      | true => exact ⟨as, F, M, ρ, bi, h⟩
      | false => exact ⟨as, F, M, ρ, bi, h⟩
    | _ => exact absurd h Bool.false_ne_true
  | .for_ t it b, X, W, st, G, h => by
    cases st with
    | For tg iter body orelse p =>
      cases orelse with
      | cons _ _ => exact absurd h Bool.false_ne_true
      | nil =>
        simp only [chkS, Bool.and_eq_true, Bool.not_eq_true'] at h
        obtain ⟨⟨⟨h1, h2⟩, h3⟩, h4⟩ := h
        obtain ⟨hi, hset⟩ := sndI (as0 := as0) (F0 := F0) (H0 := H0) (W := W) it G.g (tg := tg) h2
        rw [h3] at hi
        refine (ps_for G.po G.g.calm hi (pg_tg (sc := X.env.scope) G.g.nd G.g.calm G.st h1) (sndSs b G h4) (folded_of hset)).imp fun D' σ H q => ?_
        refine (rdS.bind (R := RI X.K cls false) (f := evI C it) (g := fun xs ρ M => forL (fun x ρ M => (lift (setTg t x ρ) M).bind fun ρ M => ex C fu b ρ M) xs ρ M) q).imp fun J H1 ⟨as1, F1, M1, ρ1, xs, bi1, ⟨S, hS, wk⟩, h⟩ => ?_
        have hS := hS rfl
        subst hS
        refine ⟨fun i m σ H => m = xs.length - i ∧ i ≤ xs.length ∧ ∃ as F M ρ, Ext as1 F1 H1 as F H ∧ BI X.K cls as0 F0 H0 as F M ρ σ H ∧ OutS X.K cls as0 F0 H0 W as F H (forL (fun x ρ M => (lift (setTg t x ρ) M).bind fun ρ M => ex C fu b ρ M) (xs.drop i) ρ M) D',
          ⟨xs.length, by simp, by simp, as1, F1, M1, ρ1, Stp.refl.ext, bi1, h⟩, ?_⟩
        rintro i m σ2 H2 ⟨rfl, hi2, as2, F2, M2, ρ2, ex2, bi2, h2⟩
        by_cases hlt : i < xs.length
        · have hd : xs[i]? = some xs[i] := List.getElem?_eq_getElem hlt
          obtain ⟨go, turn⟩ := wk.go as2 F2 H2 ex2 (by simp) i _ hd
          rw [List.drop_eq_getElem_cons hlt] at h2
          replace h2 : OutS X.K cls as0 F0 H0 W as2 F2 H2 (((lift (setTg t xs[i] ρ2) M2).bind fun ρ M => ex C fu b ρ M).bind fun r M => match r.1 with
            | .ret d => Res.ok (Fl.ret d, r.2) M
            | _ => forL (fun x ρ M => (lift (setTg t x ρ) M).bind fun ρ M => ex C fu b ρ M) (xs.drop (i + 1)) r.2 M) D' := h2
          cases es : setTg t xs[i] ρ2 with
          | none => rw [es] at h2; exact h2.elim
          | some ρ' =>
            rw [es] at h2
            replace h2 : OutS X.K cls as0 F0 H0 W as2 F2 H2 ((ex C fu b ρ' M2).bind fun r M => match r.1 with
              | .ret d => Res.ok (Fl.ret d, r.2) M
              | _ => forL (fun x ρ M => (lift (setTg t x ρ) M).bind fun ρ M => ex C fu b ρ M) (xs.drop (i + 1)) r.2 M) D' := h2
            refine .inr ⟨go, fun σ' H' => ∃ as F M ρ, Ext as1 F1 H1 as F H' ∧ BI X.K cls as0 F0 H0 as F M ρ σ' H' ∧ OutS X.K cls as0 F0 H0 W as F H' (forL (fun x ρ M => (lift (setTg t x ρ) M).bind fun ρ M => ex C fu b ρ M) (xs.drop (i + 1)) ρ M) D', fun σ' H' n => ⟨xs.length - (i + 1), by omega, rfl, by omega, n⟩, fun x H' y => ?_⟩
            obtain ⟨stp, mem, r⟩ := turn x H' y
            have bi3 := bi2.step stp (mem _ bi2.mem)
            refine tg_red (vs := match t with | .nm i => [i] | .tp is => is) bi3.slo r es (by cases t <;> simp [tgOk]) .refl fun σ' sl _ => ⟨as2, F2, M2, ρ', ⟨bi3.stp, bi3.mem, sl⟩, ?_⟩
            exact OutS.turn (OutS.ext h2 stp.ext) (fun as' F' M' ρ' σ' H' ex bi o => ⟨as', F', M', ρ', (ex2.trans stp.ext).trans ex, bi, o⟩) rfl rfl rfl
        · have hd : xs.drop i = [] := List.drop_eq_nil_of_le (by omega)
          rw [hd] at h2
          have hi3 : i = xs.length := by omega
          exact .inl ⟨by rw [hi3]; exact wk.stop as2 F2 H2 ex2 (by simp), OutS.next (M := M2) (ρ := ρ2) h2 bi2⟩
    | _ => exact absurd h Bool.false_ne_true
  | .while c b, X, W, st, G, h => by
    cases st with
    | While x body orelse p =>
      cases orelse with
      | cons _ _ => exact absurd h Bool.false_ne_true
      | nil =>
        simp only [chkS, Bool.and_eq_true] at h
        obtain ⟨h1, h2⟩ := h
        refine (ps_while G.po (ptO (as0 := as0) (F0 := F0) (H0 := H0) (W := W) h1 (fun h => sndE c G.g h) (fun t _ h => sndTF c t G.g h)) (sndSs b G h2)).imp fun D' σ H ⟨as, F, M, ρ, bi, q⟩ => ?_
        have e : (fun ρ M => (ev C c ρ M).bind fun x M => lift (x.tru M) M) = tst false (ev C c) := by funext ρ M; rfl
        replace q : OutS X.K cls as0 F0 H0 W as F H (whileL (fun ρ M => (ev C c ρ M).bind fun x M => lift (x.tru M) M) (ex C fu b) fu ρ M) D' := q
        rw [e] at q
        refine ⟨fun m σ H => ∃ as F M ρ, BI X.K cls as0 F0 H0 as F M ρ σ H ∧ OutS X.K cls as0 F0 H0 W as F H (whileL (tst false (ev C c)) (ex C fu b) m ρ M) D', ⟨fu, as, F, M, ρ, bi, q⟩, ?_⟩
        rintro m σ2 H2 ⟨as2, F2, M2, ρ2, bi2, q2⟩
        cases m with
        | zero => exact q2.elim
        | succ m =>
          refine (rdS.bind (R := RB) (f := tst false (ev C c)) (g := fun b' ρ M => if b' then (ex C fu b ρ M).bind fun r M => match r.1 with
            | .ret d => .ok (.ret d, r.2) M
            | _ => whileL (tst false (ev C c)) (ex C fu b) m r.2 M else .ok (.next, ρ) M) (D' := D') ⟨as2, F2, M2, ρ2, bi2, q2⟩).imp fun v H3 ⟨as3, F3, M3, ρ3, d, bi3, r, h⟩ => ?_
          have r : d = v := r
          subst r
          cases d with
          | true =>
            refine ⟨fun σ' H' => ∃ as F M ρ, BI X.K cls as0 F0 H0 as F M ρ σ' H' ∧ OutS X.K cls as0 F0 H0 W as F H' (whileL (tst false (ev C c)) (ex C fu b) m ρ M) D', fun σ' H' n => ⟨m, by omega, n⟩, as3, F3, M3, ρ3, bi3, ?_⟩
            exact OutS.turn (f := fun ρ M => whileL (tst false (ev C c)) (ex C fu b) m ρ M) h (fun as' F' M' ρ' σ' H' ex bi o => ⟨as', F', M', ρ', bi, o⟩) rfl rfl rfl
          | false => exact OutS.next (M := M3) (ρ := ρ3) h bi3
    | _ => exact absurd h Bool.false_ne_true
  | .ret e, X, W, st, G, h => by
    cases st with
    | Return a p =>
      cases a with
      | none => exact absurd h Bool.false_ne_true
      | some a =>
        simp only [chkS] at h
        refine (ps_ret (sndE (as0 := as0) (F0 := F0) (H0 := H0) (W := W) e G.g h)).imp fun D' σ H q => ?_
        exact (rdS.bind (R := RP X.K) (f := ev C e) (g := fun x ρ M => .ok (.ret x, ρ) M) q).imp fun v H1 ⟨as, F, M, ρ, d, bi, r, h⟩ => h as F σ H1 Stp.refl.ext bi v r
    | _ => exact absurd h Bool.false_ne_true
  | .retN, X, W, st, G, h => by
    cases st with
    | Return a p =>
      cases a with
      | some _ => exact absurd h Bool.false_ne_true
      | none =>
        refine ps_retN.imp fun D' σ H ⟨as, F, M, ρ, bi, q⟩ => ?_
        exact q as F σ H Stp.refl.ext bi .non .non
    | _ => exact absurd h Bool.false_ne_true
  | .cont, X, W, st, G, h => by
    cases st with
    | Continue p =>
      refine ps_continue.imp fun D' σ H ⟨as, F, M, ρ, bi, q⟩ => ?_
      exact q as F σ H Stp.refl.ext bi
    | _ => exact absurd h Bool.false_ne_true
theorem sndSs : ∀ (s : S) {X : Cx} {W : L2.St → XW} {sts : List Stmt}, GoodS X cls T C k W → chkSs T X.N X.env.scope s sts = true → PSs X sts (rdS X.K cls as0 F0 H0 W (ex C fu s))
  | .skip, X, W, sts, G, h => by
    cases sts with
    | nil =>
      refine pss_nil.imp fun D' σ H ⟨as, F, M, ρ, bi, q⟩ => ?_
      exact OutS.next (M := M) (ρ := ρ) q bi
    | cons _ _ => exact absurd h Bool.false_ne_true
  | .seq a r, X, W, sts, G, h => by
    cases hg : a.isGhost with
    | true =>
      simp only [chkSs, hg] at h
      cases a <;> first | (cases hg; done) | skip
      rename_i i
      refine (sndSs r G h).imp fun D' σ H ⟨as, F, M, ρ, bi, q⟩ => ?_
      replace q : OutS X.K cls as0 F0 H0 W as F H (((lift (ownOf ρ i) M).bind fun xs M => Res.ok (Fl.next, ρ.set i (.val (.lst xs))) M).bind fun r' M => match r'.1 with | .next => ex C fu r r'.2 M | f => Res.ok (f, r'.2) M) D' := q
      cases e1 : ownOf ρ i with
      | none => rw [e1] at q; exact q.elim
      | some xs =>
        rw [e1] at q
        obtain ⟨e2, _⟩ := bi.ownAt e1
        obtain ⟨F', ex', bi'⟩ := bi.ownFrz e2
        exact ⟨as, F', M, _, bi', OutS.ext q ex'⟩
    | false =>
      cases sts with
      | nil => simp [chkSs, hg] at h
      | cons st sts =>
        simp only [chkSs, hg, Bool.and_eq_true] at h
        refine (pss_cons (sndS a G h.1) (sndSs r G h.2)).imp fun D' σ H q => ?_
        exact rdS.seq (f := ex C fu a) (g := ex C fu r) q
  | .expr _, X, W, sts, G, h => absurd h Bool.false_ne_true
  | .set _ _, X, W, sts, G, h => absurd h Bool.false_ne_true
  | .setO _ _, X, W, sts, G, h => absurd h Bool.false_ne_true
  | .frz _, X, W, sts, G, h => absurd h Bool.false_ne_true
  | .app _ _, X, W, sts, G, h => absurd h Bool.false_ne_true
  | .ext _ _, X, W, sts, G, h => absurd h Bool.false_ne_true
  | .ins _ _ _, X, W, sts, G, h => absurd h Bool.false_ne_true
  | .put _ _ _, X, W, sts, G, h => absurd h Bool.false_ne_true
  | .rev _, X, W, sts, G, h => absurd h Bool.false_ne_true
  | .popO _ _, X, W, sts, G, h => absurd h Bool.false_ne_true
  | .ite _ _ _, X, W, sts, G, h => absurd h Bool.false_ne_true
  | .for_ _ _ _, X, W, sts, G, h => absurd h Bool.false_ne_true
  | .while _ _, X, W, sts, G, h => absurd h Bool.false_ne_true
  | .ret _, X, W, sts, G, h => absurd h Bool.false_ne_true
  | .retN, X, W, sts, G, h => absurd h Bool.false_ne_true
  | .cont, X, W, sts, G, h => absurd h Bool.false_ne_true
end
end
end Ev

set_option maxRecDepth 100000
set_option maxHeartbeats 8000000
/-! Ev18: every def keeps the evaluator's promise; the law's end. -/
namespace Ev
open PySem PySem.Spec PyProof.Rows L2

/-- is this def that block? -/
def chkF (T : Txt) (fd : FDef) (st : Stmt) : Bool :=
  C8.scC fd.ns (fd.ns.take fd.np) (defScope st) && decide ((fd.ns.take fd.np).length = fd.np) && fd.dfl.isEmpty && chkSs T fd.ns (defScope st) fd.body (defBody st)
/-- the arguments are bound in order -/
def Bnd (fdt : FuncData) (ps : List Str) : Prop := ∀ us : List Value, us.length = ps.length → bindArgs fdt ⟨us, []⟩ = pure (ps.zip us)
/-- a def as it stands behind the top -/
structure FnAt (K : PySem.W.Frag) (mg : Str → Option Value) (T : Txt) (x : Str) (fd : FDef) : Prop where
  ex : ∃ st fa fdt, Fun K x x st fa fdt ∧ mg x = some (.ref fa) ∧ Bnd fdt (fd.ns.take fd.np) ∧ chkF T fd st = true
/-- a constant as it stands behind the top -/
def ConAt (K : PySem.W.Frag) (mg : Str → Option Value) (x : Str) (d : D) : Prop := ∃ u v, mg x = some u ∧ RelV v u ∧ ∀ F as H, Rp K F as H d v
/-- the text as it stands behind the top -/
structure Top (K : PySem.W.Frag) (mg : Str → Option Value) (T : Txt) (G : Nat → Option FDef) (con : Nat → Option D) : Prop where
  fn : ∀ f x, T.fn f = some x → ∃ fd, G f = some fd ∧ FnAt K mg T x fd
  ar : ∀ f n, T.ar f n = true → ∃ fd, G f = some fd ∧ n = fd.np
  con : ∀ g x d, T.con g = some x → con g = some d → ConAt K mg x d
  free : ∀ x ∈ bltNames, mg x = none

theorem start_own {fd : FDef} {ds : List D} {i : Nat} {xs : List D} (h : (Ev.start fd ds)[i]? = some (.own xs)) : False := by
  unfold Ev.start at h
  by_cases hi : i < ds.length
  · rw [List.getElem?_append_left (by simpa using hi), List.getElem?_map] at h
    cases q : ds[i]? <;> rw [q] at h <;> cases h
  · rw [List.getElem?_append_right (by simpa using hi), List.getElem?_replicate] at h
    split at h <;> cases h
theorem slo_start {K : PySem.W.Frag} {F : Addr → Prop} {as : List Addr} {H : Hp} {fd : FDef} {ds : List D} {vs : List V} (r : Rps K F as H ds vs) : SlOk K H as F (Ev.start fd ds) (L2.start fd.ns vs) H := by
  have e := r.length
  refine ⟨?_, fun i d h => ?_, fun i xs h => (start_own h).elim, fun i j xs ys a h1 => (start_own h1).elim⟩
  · unfold Ev.start L2.start
    simp [e]
  · unfold Ev.start at h
    unfold L2.start
    by_cases hi : i < ds.length
    · rw [List.getElem?_append_left (by simpa using hi), List.getElem?_map] at h
      cases q : ds[i]? with
      | none => rw [q] at h; cases h
      | some d' =>
        rw [q] at h
        cases h
        obtain ⟨v, hv, rv⟩ := r.get q
        exact ⟨v, by rw [List.getElem?_append_left (by rw [List.length_map]; omega), List.getElem?_map, hv]; rfl, rv⟩
    · rw [List.getElem?_append_right (by simpa using hi), List.getElem?_replicate] at h
      split at h <;> cases h

section
variable {P : Program} {w : World} {K : PySem.W.Frag} {mg : Str → Option Value} {base : Heap} {T : Txt} {G : Nat → Option FDef} {con : Nat → Option D} {fu : Nat} {cls : Nat → Addr}
theorem sound (t : Top K mg T G con) : ∀ (k f : Nat) (x : Str) (fd : FDef) (st : Stmt) (fa : Addr) (fdt : FuncData), G f = some fd → Fun K x x st fa fdt → chkF T fd st = true →
    FnOk P w K mg base (L2.CX P w) k fa fdt (fd.ns.take fd.np) (spD K cls (callK G con fu k) f (fd.ns.take fd.np).length)
  | 0, f, x, fd, st, fa, fdt, h2, hf, hc => by
    refine ⟨fun vs H Q E h => ?_, fun A outer s H args us vs Q E hr he hb hv hs => ?_⟩
    · obtain ⟨as, F, M, ds, hl, _⟩ := h
      exact hl
    · obtain ⟨as, F, M, ds, hl, r, m, q⟩ := hs
      exact q.elim
  | k + 1, f, x, fd, st, fa, fdt, h2, hf, hc => by
    simp only [chkF, Bool.and_eq_true, decide_eq_true_eq] at hc
    obtain ⟨⟨⟨hs, hn⟩, hdf⟩, hck⟩ := hc
    have S := C8.fnScope_by hs
    refine Fun.okX hf S (fun vs H Q E h => ?_) (fun cdv A outer s H vs Q E hr h => ?_)
    · obtain ⟨as, F, M, ds, hl, _⟩ := h
      exact hl
    · obtain ⟨as, F, M, ds, hl, r, m, q⟩ := h
      have e := r.length
      have hp : padA fd ds = some ds := by
        have hd : fd.dfl = [] := by simpa using hdf
        unfold padA
        rw [hd]
        simp
        omega
      refine ⟨rdS K cls as F H (fun _ => WX K cls E) (ex ⟨con, callK G con fu k⟩ fu fd.body), sndSs (T := T) (k := k) fd.body ⟨⟨S.nd, rfl, hr, t.free, fun g x d h1 h2 => t.con g x d h1 h2, fun f' x' hf' => ?_, fun σ => ?_⟩, fun y hy => ⟨loc_of hy, .inl rfl⟩, passes_of rfl, S.kind⟩ hck, as, F, M, Ev.start fd ds, ⟨.refl, m, slo_start r⟩, ?_⟩
      · obtain ⟨fd2, g2, ⟨st2, fa2, fdt2, F2, m2, b2, c2⟩⟩ := t.fn f' x' hf'
        refine ⟨fa2, fdt2, _, m2, F2.kp, sound t k f' x' fd2 st2 fa2 fdt2 g2 F2 c2, fun n hn => ?_⟩
        obtain ⟨fd3, g3, e3⟩ := t.ar f' n hn
        rw [g2] at g3
        cases g3
        simp only [chkF, Bool.and_eq_true, decide_eq_true_eq] at c2
        exact ⟨[], [], [], .all b2, .nil, by rw [c2.1.1.2, e3]; rfl, fun _ _ _ => .nil, fun args M _ => by rw [List.append_nil]⟩
      · refine fun pins H1 s1 e1 s1' I1 c1 => passes_call (E := EX K cls (WX K cls E)) (takes_of (X := cxOf (L2.CX P w) P w K mg base fd.ns x (defScope st) fa cdv A outer s H E) (E := E) (E₁ := fun e' s'' => L2.CX P w outer H s E e' s'') rfl rfl rfl rfl) (fun c dd σ' H' h => ?_) pins σ H1 s1 e1 s1' I1 c1
        obtain ⟨C, d, M', as', F', dx, v, rfl, rfl, m', hx, rv, hw⟩ := h
        exact hw dx v hx rv
      · replace q : OutG K cls (RP K) (WX K cls E) (match G f with
          | none => .bad
          | some fd => (lift (padA fd ds) M).bind fun args M => (ex ⟨con, callK G con fu k⟩ fu fd.body (Ev.start fd args) M).bind fin) as F H Q := q
        rw [h2] at q
        replace q : OutG K cls (RP K) (WX K cls E) ((lift (padA fd ds) M).bind fun args M => (ex ⟨con, callK G con fu k⟩ fu fd.body (Ev.start fd args) M).bind fin) as F H Q := q
        rw [hp] at q
        replace q : OutG K cls (RP K) (WX K cls E) ((ex ⟨con, callK G con fu k⟩ fu fd.body (Ev.start fd ds) M).bind fin) as F H Q := q
        cases e2 : ex ⟨con, callK G con fu k⟩ fu fd.body (Ev.start fd ds) M with
        | ok a M' =>
          rw [e2] at q
          obtain ⟨fl, ρ⟩ := a
          cases fl with
          | next => exact fun as' F' σ' H' ex bi => q as' F' .non H' bi.stp bi.mem .non
          | ret d => exact fun as' F' σ' H' ex bi v r => q as' F' v H' bi.stp bi.mem r
          | cont => exact q.elim
        | exc c d M' => rw [e2] at q; exact fun as' F' σ' H' s m => q as' F' H' s m
        | bad => rw [e2] at q; exact q.elim
end

/-- the law's script -/
theorem script_rp {K : PySem.W.Frag} {H : Hp} {a : Addr} {ns : List Int} (h : SqL K H a (ns.map V.int)) (o : Only H) (z : ns.length ≤ sizeLine) (hk : ∀ o, K.lookup a = some o → ∃ its n, o = { cls := .type "list", data := .seq its n }) :
    Rps K (fun _ => False) [] H [.lst (ns.map D.int)] [.ref a] := by
  refine .cons (.lst (vs := ns.map V.int) ?_ (by rw [List.length_map]; exact z) ?_) .nil
  · rcases h with (h | ⟨o', h⟩) | ⟨ob, its, n, h1, h2, h3, h4, h5, h6⟩
    · rcases o a with q | ⟨_, _, q⟩
      · rw [q] at h; cases h
      · rw [q] at h; cases h
    · exact .inr (.inl ⟨o', h⟩)
    · obtain ⟨its', n', rfl⟩ := hk _ h1
      cases h4
      exact .inr (.inr ⟨_, _, h1, h5, h6⟩)
  · clear h z
    induction ns with
    | nil => exact .nil
    | cons n ns ih => exact .cons (.int n) ih
/-- what the law must give -/
theorem law_sp {K : PySem.W.Frag} {H : Hp} {a : Addr} {ns : List Int} {cls : Nat → Addr} {call : Nat → List D → Mem → Res D} {f : Nat} {M' : Mem} (h : SqL K H a (ns.map V.int)) (o : Only H) (z : ns.length ≤ sizeLine) (hk : ∀ o, K.lookup a = some o → ∃ its n, o = { cls := .type "list", data := .seq its n })
    (q : call f [.lst (ns.map D.int)] [] = .ok (D.bl true) M') : spD K cls call f 1 [.ref a] H (fun v _ => v = .bl true) fun _ _ _ => False := by
  refine ⟨[], fun _ => False, [], _, rfl, script_rp h o z hk, ⟨rfl, List.nodup_nil, by simp, fun b hb => hb.elim, by simp⟩, ?_⟩
  rw [q]
  intro as' F' v H' s m r
  cases r
  rfl
/-- the law's end: what stands behind the top, and what the evaluator gives -/
theorem walk_E {l : PySem.W.OpenLaw} {n k fu f : Nat} {q : Program} {loose : List Str} {XP : (Str → Option Value) → Heap → Prop} {YP : World → Heap → Prop} {d : DefRec} {K : Params → PySem.W.Frag} {T : Txt} {G : Nat → Option FDef} {con : Nat → Option D} {fd : FDef} {x : Str}
    (hn : l.most = some n) (hn2 : n ≤ sizeLine) (hdf : d.params.defaults = []) (hr : Room k callerA) (hY : ∀ (w : World) (h : Heap), YP w h → (K w.params).In h)
    (hf : T.fn f = some d.name) (hG : G f = some fd) (hp : fd.ns.take fd.np = [x])
    (top : ∀ (w : World) (mg : Str → Option Value) (fa : Addr) (h : Heap), (K w.params).In h → h.Ns mainGlobals mg → mg d.name = some (.ref fa) → Top (K w.params) mg T G con)
    (hev : ∀ ns : List Int, ns.length ≤ n → ∃ M', callK G con fu k f [.lst (ns.map D.int)] [] = .ok (D.bl true) M') :
    PySem.W.WalkO q loose XP YP l.row.toRowW d [] (fun f vs => PySem.call f vs) := by
  refine Att.attach_call hn hdf fun w s0 s1 mg mb fa ob pm cd doc a vs ns gr hy ho hd hcd hmg hobj hints hlen hg => ?_
  have KX := hY w _ hy
  have tp := top w mg fa _ KX gr.T.g hmg
  obtain ⟨fd', hG', ⟨st, fa', fdt, hF, hm, hb, hc⟩⟩ := tp.fn f _ hf
  rw [hG] at hG'
  cases hG'
  rw [hmg] at hm
  cases hm
  have hz := Nat.le_trans hlen hn2
  refine law_call (fd := fdt) (CX := L2.CX l.prog w) (k := k) (x := x) (sp := spD (K w.params) (fun _ => 0) (callK G con fu k) f (fd.ns.take fd.np).length) KX gr.T.g gr.T.b gr.T.builtins gr.T.nolimit hg hobj hints hz hr (fun base h1 h2 => ?_) (fun s u => ?_) (fun H hO hS => ?_) fun H e s' hx => ?_
  · have tb := top w mg fa _ h1 h2 hmg
    have hs := sound (P := l.prog) (w := w) (base := base) (fu := fu) (cls := fun _ => 0) tb k f _ fd st fa fdt hG hF hc
    rw [← hp]
    exact hs
  · refine .of_eq ?_
    rw [hb [u] (by rw [hp]; rfl), hp]
    rfl
  · rw [hp]
    obtain ⟨M', hE⟩ := hev ns hlen
    exact law_sp hS hO hz (fun o e => by
      have e2 := KX a o e
      rw [hobj] at e2
      cases e2
      exact ⟨_, _, rfl⟩) hE
  · obtain ⟨_, _, _, _, _, _, _, _, _, _, _, _, z⟩ := hx
    exact z.elim
end Ev

set_option maxRecDepth 100000
set_option maxHeartbeats 8000000
/-! Ev19: the top, by looks. -/
namespace Ev
open PySem PySem.Spec PyProof.Rows L2

/-- tuples that are known -/
abbrev TupL := List (Addr × Array Value)
def tupAt (a : Addr) : TupL → Option (Array Value)
  | [] => none
  | (b, v) :: r => if a == b then some v else tupAt a r
def TupsIn (K : PySem.W.Frag) : TupL → Prop
  | [] => True
  | (a, its) :: r => (∃ od n sl, K.lookup a = some ⟨.type "tuple", od, .seq its n, sl⟩) ∧ TupsIn K r
theorem tupAt_in {K : PySem.W.Frag} : ∀ {L : TupL}, TupsIn K L → ∀ {a : Addr} {its : Array Value}, tupAt a L = some its → ∃ od n sl, K.lookup a = some ⟨.type "tuple", od, .seq its n, sl⟩
  | [], _, _, _, h => by cases h
  | (b, v) :: r, ⟨h1, h2⟩, a, its, h => by
    unfold tupAt at h
    split at h
    · rename_i e
      have e : a = b := by simpa using e
      cases h
      rw [e]
      exact h1
    · exact tupAt_in h2 h
mutual
/-- the value u is the datum d, by what is known -/
def statB (L : TupL) : D → Value → Bool
  | .non, u => match u with | .none => true | _ => false
  | .bl b, u => match u with | .bool c => b == c | _ => false
  | .int i, u => match u with | .int j _ => i == j | _ => false
  | .str cs, u => match u with | .str x _ => x.cps.toList == cs && strOkC cs && decide (cs.length ≤ big) | _ => false
  | .tup xs, u => match u with
    | .ref a => (match tupAt a L with
      | some its => decide (its.size ≤ big) && statsB L xs its.toList
      | _ => false)
    | _ => false
  | _, _ => false
def statsB (L : TupL) : List D → List Value → Bool
  | [], [] => true
  | x :: xs, u :: us => statB L x u && statsB L xs us
  | _, _ => false
end
/-- the value that stands for it -/
def vOf : Value → V
  | .none => .non
  | .bool b => .bl b
  | .int i _ => .int i
  | .str x _ => .str x
  | .ref a => .ref a
  | _ => .non
mutual
theorem stat_rp {K : PySem.W.Frag} {L : TupL} (t : TupsIn K L) : ∀ (d : D) (u : Value), statB L d u = true → RelV (vOf u) u ∧ ∀ F as H, Rp K F as H d (vOf u)
  | .non, u, h => by
    cases u <;> first | exact ⟨rfl, fun _ _ _ => .non⟩ | exact absurd h Bool.false_ne_true
  | .bl b, u, h => by
    cases u <;> first | exact absurd h Bool.false_ne_true | skip
    rename_i c
    have e : b = c := by simpa [statB] using h
    subst e
    exact ⟨rfl, fun _ _ _ => .bl b⟩
  | .int i, u, h => by
    cases u <;> first | exact absurd h Bool.false_ne_true | skip
    rename_i j t
    have e : i = j := by simpa [statB] using h
    subst e
    exact ⟨⟨t, rfl⟩, fun _ _ _ => .int i⟩
  | .str cs, u, h => by
    cases u <;> first | exact absurd h Bool.false_ne_true | skip
    rename_i x t
    simp only [statB, Bool.and_eq_true, decide_eq_true_eq, beq_iff_eq] at h
    obtain ⟨⟨h1, h2⟩, h3⟩ := h
    refine ⟨⟨t, rfl⟩, fun _ _ _ => ?_⟩
    have e : x = ⟨cs.toArray⟩ := by
      obtain ⟨a⟩ := x
      rw [← h1]
    show Rp _ _ _ _ (.str cs) (.str x)
    rw [e]
    exact .str h2 (by rw [← big_line]; exact h3)
  | .tup xs, u, h => by
    cases u <;> first | exact absurd h Bool.false_ne_true | skip
    rename_i a
    simp only [statB] at h
    split at h
    · rename_i its e
      obtain ⟨od, n, sl, e⟩ := tupAt_in t e
      simp only [Bool.and_eq_true, decide_eq_true_eq] at h
      obtain ⟨r1, r2⟩ := stats_rp t xs its.toList h.2
      have hz : its.size ≤ sizeLine := by rw [← big_line]; exact h.1
      refine ⟨rfl, fun F as H => .tup (vs := its.toList.map vOf) (.inr ⟨_, its, n, e, rfl, rfl, hz, r1⟩) (by simpa using hz) (r2 F as H)⟩
    · cases h
  | .lst _, u, h => absurd h Bool.false_ne_true
  | .obj _, u, h => absurd h Bool.false_ne_true
theorem stats_rp {K : PySem.W.Frag} {L : TupL} (t : TupsIn K L) : ∀ (ds : List D) (us : List Value), statsB L ds us = true → Vals (us.map vOf) us ∧ ∀ F as H, Rps K F as H ds (us.map vOf)
  | [], [], h => ⟨.nil, fun _ _ _ => .nil⟩
  | [], _ :: _, h => absurd h Bool.false_ne_true
  | _ :: _, [], h => absurd h Bool.false_ne_true
  | d :: ds, u :: us, h => by
    simp only [statsB, Bool.and_eq_true] at h
    obtain ⟨h1, h2⟩ := stat_rp t d u h.1
    obtain ⟨h3, h4⟩ := stats_rp t ds us h.2
    exact ⟨.cons h1 h3, fun F as H => .cons (h2 F as H) (h4 F as H)⟩
end
/-- a constant of the module -/
theorem conAt {K : PySem.W.Frag} {h : Heap} {mg : Str → Option Value} (X : K.In h) (G : h.Ns mainGlobals mg) {x : Str} {d : D} {u : Value} (L : TupL) (e : PySem.W.nsIn K mainGlobals x = some (some u)) (t : TupsIn K L) (c : statB L d u = true) : ConAt K mg x d := by
  obtain ⟨h1, h2⟩ := stat_rp t d u c
  exact ⟨u, vOf u, PySem.W.mg_of X G e, h1, h2⟩
theorem fnAt {K : PySem.W.Frag} {h : Heap} {mg : Str → Option Value} (X : K.In h) (G : h.Ns mainGlobals mg) {T : Txt} {x : Str} {fd : FDef} (st : Stmt) {f : Addr} {oc : Value} {od an : Option Addr} {osl : Array (Option Value)} {kV doc pm cdv ct : Value}
    (a : PySem.W.nsIn K mainGlobals x = some (some (.ref f))) (l : K.lookup f = some ⟨oc, od, .func (PySem.W.fnOf x x (defArgs st) (defBody st) (defScope st) .none kV doc pm an cdv ct), osl⟩)
    (c : PySem.W.codeIn K cdv x = true) (k : PySem.W.keepIn K (.ref f) = true) (hk : chkF T fd st = true)
    (hb : ∀ (kV doc pm : Value) (an : Option Addr) (cdv ct : Value), Bnd (PySem.W.fnOf x x (defArgs st) (defBody st) (defScope st) .none kV doc pm an cdv ct) (fd.ns.take fd.np)) : FnAt K mg T x fd :=
  ⟨st, f, _, fun_mk l c k, PySem.W.mg_of X G a, hb _ _ _ _ _ _, hk⟩
/-- a table of the text's defs -/
abbrev FTab := List (Nat × Str × FDef)
abbrev CTab := List (Nat × Str × D)
def look {α : Type} (n : Nat) : List (Nat × α) → Option α
  | [] => none
  | (m, a) :: r => if n == m then some a else look n r
def txtOf (t : FTab) (c : CTab) : Txt := ⟨fun f => (look f t).map (·.1), fun f n => match look f t with | some p => n == p.2.np | none => false, fun g => (look g c).map (·.1)⟩
def gOf (t : FTab) : Nat → Option FDef := fun f => (look f t).map (·.2)
def cOf (c : CTab) : Nat → Option D := fun g => (look g c).map (·.2)
def AllAt (P : Nat → Str → α → Prop) : List (Nat × Str × α) → Prop
  | [] => True
  | (n, x, a) :: r => P n x a ∧ AllAt P r
theorem AllAt.look {α : Type} {P : Nat → Str → α → Prop} : ∀ {t : List (Nat × Str × α)}, AllAt P t → ∀ {f : Nat} {x : Str} {a : α}, Ev.look f t = some (x, a) → P f x a
  | [], _, _, _, _, h => by cases h
  | (n, y, b) :: r, ⟨h1, h2⟩, f, x, a, h => by
    unfold Ev.look at h
    split at h
    · rename_i e
      have e : f = n := by simpa using e
      cases h
      rw [e]
      exact h1
    · exact h2.look h
theorem top_mk {K : PySem.W.Frag} {mg : Str → Option Value} {t : FTab} {c : CTab} (hf : AllAt (fun _ x fd => FnAt K mg (txtOf t c) x fd) t) (hc : AllAt (fun _ x d => ConAt K mg x d) c) (fr : ∀ x ∈ bltNames, mg x = none) : Top K mg (txtOf t c) (gOf t) (cOf c) where
  fn := fun f x h => by
    unfold txtOf at h
    cases e : look f t with
    | none => simp only [e] at h; cases h
    | some p =>
      simp only [e] at h
      cases h
      exact ⟨p.2, by unfold gOf; rw [e]; rfl, hf.look e⟩
  ar := fun f n h => by
    unfold txtOf at h
    cases e : look f t with
    | none => simp only [e] at h; cases h
    | some p =>
      simp only [e] at h
      exact ⟨p.2, by unfold gOf; rw [e]; rfl, by simpa using h⟩
  con := fun g x d h1 h2 => by
    unfold txtOf at h1
    unfold cOf at h2
    cases e : look g c with
    | none => simp only [e] at h1; cases h1
    | some p =>
      simp only [e] at h1
      rw [e] at h2
      cases h1
      cases h2
      exact hc.look e
  free := fr
/-- names that the module leaves alone -/
def FreeIn (K : PySem.W.Frag) : List Str → Prop
  | [] => True
  | x :: r => PySem.W.nsIn K mainGlobals x = some none ∧ FreeIn K r
theorem free_of {K : PySem.W.Frag} {h : Heap} {mg : Str → Option Value} (X : K.In h) (G : h.Ns mainGlobals mg) : ∀ {xs : List Str}, FreeIn K xs → ∀ x ∈ xs, mg x = none
  | [], _, x, hx => by cases hx
  | y :: r, ⟨h1, h2⟩, x, hx => by
    rcases List.mem_cons.mp hx with rfl | hx
    · exact PySem.W.mg_none_of X G h1
    · exact free_of X G h2 x hx
end Ev

set_option maxRecDepth 100000
set_option maxHeartbeats 8000000
/-! Ev20: evaluation, step by step (for simp). -/
namespace Ev
section
variable {α β : Type} {M : Mem}
theorem bind_ok {a : α} {f : α → Mem → Res β} : (Res.ok a M).bind f = f a M := rfl
theorem bind_exc {C : Nat} {d : D} {f : α → Mem → Res β} : (Res.exc C d M : Res α).bind f = .exc C d M := rfl
theorem bind_bad {f : α → Mem → Res β} : (Res.bad : Res α).bind f = .bad := rfl
theorem bind_ite {c : Prop} [Decidable c] {a b : Res α} {f : α → Mem → Res β} : (if c then a else b).bind f = if c then a.bind f else b.bind f := by split <;> rfl
theorem bind_bind {γ : Type} {a : Res α} {f : α → Mem → Res β} {g : β → Mem → Res γ} : (a.bind f).bind g = a.bind fun x M => (f x M).bind g := by cases a <;> rfl
theorem bind_cong {a a' : Res α} {f : α → Mem → Res β} (h : a = a') : a.bind f = a'.bind f := by rw [h]
theorem noexc_ok {a : α} : (Res.ok a M).noexc = .ok a M := rfl
theorem lift_some {a : α} : lift (some a) M = .ok a M := rfl
theorem lift_none : (lift none M : Res α) = .bad := rfl
theorem lift_ite {c : Prop} [Decidable c] {a b : Option α} : lift (if c then a else b) M = if c then lift a M else lift b M := by split <;> rfl
theorem fin_ret {d : D} {ρ : Env} : fin (.ret d, ρ) M = .ok d M := rfl
theorem fin_next {ρ : Env} : fin (.next, ρ) M = .ok .non M := rfl
theorem cmp_eq {a b : D} : cmpQ M .eq a b = eqQ a b := rfl
theorem cmp_ne {a b : D} : cmpQ M .ne a b = (eqQ a b).map (!·) := rfl
theorem cmp_lt {i j : Int} : cmpQ M .lt (.int i) (.int j) = some (decide (i < j)) := rfl
theorem cmp_le {i j : Int} : cmpQ M .le (.int i) (.int j) = some (decide (i ≤ j)) := rfl
theorem cmp_gt {i j : Int} : cmpQ M .gt (.int i) (.int j) = some (decide (j < i)) := rfl
theorem cmp_ge {i j : Int} : cmpQ M .ge (.int i) (.int j) = some (decide (j ≤ i)) := rfl
theorem cmp_in {a b : D} : cmpQ M .in_ a b = inQ a M b := rfl
theorem cmp_notIn {a b : D} : cmpQ M .notIn a b = (inQ a M b).map (!·) := rfl
theorem cmp_leS {x y : List Nat} : cmpQ M .le (.str x) (.str y) = some (!ltC y x) := rfl
theorem cmp_ltS {x y : List Nat} : cmpQ M .lt (.str x) (.str y) = some (ltC x y) := rfl
theorem cmp_is {a b : D} : cmpQ M .is a b = isC a b := rfl
theorem cmp_isNot {a b : D} : cmpQ M .isNot a b = (isC a b).map (!·) := rfl
theorem in_tup {x : D} {ys : List D} : inQ x M (.tup ys) = if eqOk x (.tup ys) then some (inDs x ys) else none := rfl
theorem in_lst {x : D} {ys : List D} : inQ x M (.lst ys) = if eqOk x (.lst ys) then some (inDs x ys) else none := rfl
theorem in_str {c : Nat} {ys : List Nat} : inQ (.str [c]) M (.str ys) = some (decide (c ∈ ys)) := rfl
theorem eqQ_int {i j : Int} : eqQ (.int i) (.int j) = some (i == j) := rfl
theorem eqQ_str {i j : List Nat} : eqQ (.str i) (.str j) = some (i == j) := rfl
theorem eqQ_of {a b : D} (h : eqOk a b = true) : eqQ a b = some (eqD a b) := by simp [eqQ, h]
theorem add_int {i j : Int} : binQ .add (.int i) (.int j) = some (.int (i + j)) := rfl
theorem sub_int {i j : Int} : binQ .sub (.int i) (.int j) = some (.int (i - j)) := rfl
theorem mul_int {i j : Int} (h : mulOk i j = true) : binQ .mul (.int i) (.int j) = some (.int (i * j)) := by simp [binQ, h]
theorem mod_int {i j : Int} (h : j ≠ 0) : binQ .mod (.int i) (.int j) = some (.int (i.fmod j)) := by simp [binQ, h]
theorem fdiv_int {i j : Int} (h : j ≠ 0 ∧ j.natAbs < 1073741824) : binQ .fdiv (.int i) (.int j) = some (.int (i.fdiv j)) := by simp [binQ, h]
theorem add_lst {x y : List D} : binQ .add (.lst x) (.lst y) = if x.length + y.length ≤ big then some (.lst (x ++ y)) else none := rfl
theorem add_tup {x y : List D} : binQ .add (.tup x) (.tup y) = if x.length + y.length ≤ big then some (.tup (x ++ y)) else none := rfl
theorem add_str {x y : List Nat} : binQ .add (.str x) (.str y) = if x.length + y.length ≤ big then some (.str (x ++ y)) else none := rfl
theorem idx_lst {x : List D} {i : Int} : idxQ (.lst x) (.int i) = getIx x i := rfl
theorem idx_tup {x : List D} {i : Int} : idxQ (.tup x) (.int i) = getIx x i := rfl
theorem idx_str {x : List Nat} {i : Int} : idxQ (.str x) (.int i) = (getIx x i).map fun c => .str [c] := rfl
theorem tru_bl {b : Bool} : (D.bl b).tru M = some b := rfl
theorem tru_int {i : Int} : (D.int i).tru M = some (i != 0) := rfl
theorem tru_lst {x : List D} : (D.lst x).tru M = some (!x.isEmpty) := rfl
theorem tru_tup {x : List D} : (D.tup x).tru M = some (!x.isEmpty) := rfl
theorem tru_str {x : List Nat} : (D.str x).tru M = some (!x.isEmpty) := rfl
theorem tru_non : D.non.tru M = some false := rfl
theorem len_lst {x : List D} : biQ M .len [.lst x] = some (.int x.length) := rfl
theorem len_tup {x : List D} : biQ M .len [.tup x] = some (.int x.length) := rfl
theorem len_str {x : List Nat} : biQ M .len [.str x] = some (.int x.length) := rfl
theorem bi_int {i : Int} : biQ M .int [.int i] = some (.int i) := rfl
theorem bi_all {x : List D} : biQ M .all [.lst x] = (boolsOf x).map fun bs => .bl (bs.all id) := rfl
theorem bi_any {x : List D} : biQ M .any [.lst x] = (boolsOf x).map fun bs => .bl (bs.any id) := rfl
theorem bi_tuple {x : List D} : biQ M .tuple [.lst x] = some (.tup x) := rfl
theorem seq_lst {x : List D} : seqOf (.lst x) = some x := rfl
theorem seq_tup {x : List D} : seqOf (.tup x) = some x := rfl
theorem seq_str {x : List Nat} : seqOf (.str x) = some (x.map fun c => .str [c]) := rfl
theorem tst_nil {f : Env → Mem → Res D} {ρ : Env} : tst true f ρ M = .ok true M := rfl
theorem tst_c {f : Env → Mem → Res D} {ρ : Env} : tst false f ρ M = (f ρ M).bind fun x M => lift (x.tru M) M := rfl
theorem map_some {a : α} {f : α → β} : Option.map f (some a) = some (f a) := rfl
theorem map_ite {c : Prop} [Decidable c] {a b : Option α} {f : α → β} : Option.map f (if c then a else b) = if c then a.map f else b.map f := by split <;> rfl
theorem isi_tup_t {x : List D} : isiQ .tuple (.tup x) = some true := rfl
theorem isi_str_t {x : List Nat} : isiQ .str (.str x) = some true := rfl
theorem wipe_nil {ρ : Env} : wipeD ρ [] = ρ := rfl
theorem wipe_cons {ρ : Env} {v : Nat} {vs : List Nat} : wipeD ρ (v :: vs) = (wipeD ρ vs).set v .no := rfl
theorem boolsOf_map {γ : Type} {f : γ → Bool} : ∀ {xs : List γ}, boolsOf (xs.map fun x => D.bl (f x)) = some (xs.map f)
  | [] => rfl
  | x :: xs => by
    show (boolsOf (xs.map fun x => D.bl (f x))).map (f x :: ·) = _
    rw [boolsOf_map]
    rfl
theorem compL_pure {ρ : Env} {t : Tg} {fc : Env → Mem → Res Bool} {fe : Env → Mem → Res D} (p : D → Bool) (g : D → D) {M : Mem} : ∀ (xs : List D),
    (∀ x ∈ xs, ∃ ρ1, setTg t x ρ = some ρ1 ∧ fc ρ1 M = .ok (p x) M ∧ (p x = true → fe ρ1 M = .ok (g x) M)) → compL ρ t fc fe xs M = .ok ((xs.filter p).map g) M
  | [], _ => rfl
  | x :: xs, h => by
    obtain ⟨ρ1, h1, h2, h3⟩ := h x List.mem_cons_self
    have ih := compL_pure (ρ := ρ) (t := t) (fc := fc) (fe := fe) p g xs fun y hy => h y (List.mem_cons_of_mem _ hy)
    show ((lift (setTg t x ρ) M).bind fun ρ1 M1 => (fc ρ1 M1).bind fun b M2 => if b then (fe ρ1 M2).bind fun y M3 => (compL ρ t fc fe xs M3).bind fun ys M4 => .ok (y :: ys) M4 else compL ρ t fc fe xs M2) = _
    rw [h1]
    simp only [lift_some, bind_ok, h2]
    cases hp : p x with
    | true => simp [h3 hp, ih, hp, bind_ok]
    | false => simp [ih, hp]
/-- a loop that keeps a word -/
theorem forL_inv {f : D → Env → Mem → Res (Fl × Env)} (P : Nat → Env → Prop) : ∀ (xs : List D) (i : Nat) (ρ : Env), P i ρ → (∀ j x ρ, xs[j]? = some x → P (i + j) ρ → ∃ ρ', f x ρ M = .ok (.next, ρ') M ∧ P (i + j + 1) ρ') → ∃ ρ', forL f xs ρ M = .ok (.next, ρ') M ∧ P (i + xs.length) ρ'
  | [], i, ρ, h, _ => ⟨ρ, rfl, h⟩
  | x :: xs, i, ρ, h, hs => by
    obtain ⟨ρ1, e1, p1⟩ := hs 0 x ρ rfl h
    obtain ⟨ρ2, e2, p2⟩ := forL_inv P xs (i + 1) ρ1 p1 fun j y ρ hy hp => by
      have := hs (j + 1) y ρ hy (by rw [show i + (j + 1) = i + 1 + j by omega]; exact hp)
      rw [show i + (j + 1) + 1 = i + 1 + j + 1 by omega] at this
      exact this
    refine ⟨ρ2, ?_, by rw [List.length_cons, show i + (xs.length + 1) = i + 1 + xs.length by omega]; exact p2⟩
    show ((f x ρ M).bind fun r M => match r.1 with | .ret d => .ok (.ret d, r.2) M | _ => forL f xs r.2 M) = _
    rw [e1]
    exact e2
end
theorem callK_at {G : Nat → Option FDef} {con : Nat → Option D} {fu k f : Nat} {fd : FDef} {args : List D} {M : Mem} (h : G f = some fd) (hp : padA fd args = some args) :
    callK G con fu (k + 1) f args M = (ex ⟨con, callK G con fu k⟩ fu fd.body (start fd args) M).bind fin := by
  show (match G f with
    | none => Res.bad
    | some fd => (lift (padA fd args) M).bind fun args M => (ex ⟨con, callK G con fu k⟩ fu fd.body (start fd args) M).bind fin) = _
  rw [h]
  simp only [hp, lift, Res.bind]
theorem getIx_0 {α : Type} {x : α} {xs : List α} : getIx (x :: xs) 0 = some x := by
  have : ixN (x :: xs).length 0 = some 0 := by simp [ixN]
  unfold getIx
  rw [this]
  rfl
theorem getIx_nat {α : Type} {xs : List α} {i : Int} {n : Nat} (h : i = n) (hn : n < xs.length) : getIx xs i = xs[n]? := by
  subst h
  have : ixN xs.length n = some n := by simp [ixN]; omega
  simp [getIx, this]
end Ev

set_option maxRecDepth 100000
set_option maxHeartbeats 8000000
namespace Ev
/-! the defs -/
def S_names_is_name : S := (.seq (.ret (.and (.cons (.isi .str (.var 0)) (.cons (.cmp2 .le .le (.int 1) (.bi .len (.cons (.var 0) .nil)) (.glo 15)) (.cons (.bi .all (.cons (.comp [1] (.nm 1) (.itV (.var 0)) .nil (.cmp .in_ (.var 1) (.glo 14))) .nil)) .nil))))) .skip)
def F_names_is_name : FDef := { np := 1, ns := ["value", "one"], body := S_names_is_name }
def S_names_is_plain : S := (.seq (.ret (.and (.cons (.isi .str (.var 0)) (.cons (.cmp .le (.bi .len (.cons (.var 0) .nil)) (.glo 13)) (.cons (.bi .all (.cons (.comp [1] (.nm 1) (.itV (.var 0)) .nil (.cmp .in_ (.var 1) (.glo 12))) .nil)) .nil))))) .skip)
def F_names_is_plain : FDef := { np := 1, ns := ["value", "one"], body := S_names_is_plain }
def S_queries_is_word_test : S := (.seq (.ite (.cmp .eq (.idx (.var 0) (.int 0)) (.str [118, 97, 108, 117, 101])) (.seq (.ret (.and (.cons (.cmp .eq (.bi .len (.cons (.var 0) .nil)) (.int 3)) (.cons (.call 10 (.cons (.idx (.var 0) (.int 1)) .nil)) (.cons (.call 9 (.cons (.idx (.var 0) (.int 2)) .nil)) .nil))))) .skip) .skip) (.seq (.ite (.cmp .ne (.bi .len (.cons (.var 0) .nil)) (.int 2)) (.seq (.ret (.bl false)) .skip) .skip) (.seq (.ret (.ite (.cmp .eq (.idx (.var 0) (.int 0)) (.str [116, 101, 120, 116])) (.call 9 (.cons (.idx (.var 0) (.int 1)) .nil)) (.call 10 (.cons (.idx (.var 0) (.int 1)) .nil)))) .skip)))
def F_queries_is_word_test : FDef := { np := 1, ns := ["value"], body := S_queries_is_word_test }
def S_queries_are_parts : S := (.seq (.ite (.or (.cons (.not (.isi .tuple (.var 0))) (.cons (.not (.cmp2 .le .le (.int 2) (.bi .len (.cons (.var 0) .nil)) (.glo 11))) .nil))) (.seq (.ret (.bl false)) .skip) .skip) (.seq (.ret (.bi .all (.cons (.comp [2] (.nm 2) (.itV (.var 0)) .nil (.call 1 (.cons (.var 2) (.cons (.var 1) .nil)))) .nil))) .skip))
def F_queries_are_parts : FDef := { np := 2, ns := ["value", "deep", "part"], body := S_queries_are_parts }
def S_queries_is_deep_test : S := (.seq (.ite (.or (.cons (.not (.isi .tuple (.var 0))) (.cons (.cmp .eq (.bi .len (.cons (.var 0) .nil)) (.int 0)) (.cons (.cmp .eq (.var 1) (.int 0)) .nil)))) (.seq (.ret (.bl false)) .skip) .skip) (.seq (.ite (.cmp .in_ (.idx (.var 0) (.int 0)) (.glo 3)) (.seq (.ret (.cmp .eq (.bi .len (.cons (.var 0) .nil)) (.int 1))) .skip) .skip) (.seq (.ite (.or (.cons (.cmp .in_ (.idx (.var 0) (.int 0)) (.glo 4)) (.cons (.cmp .eq (.idx (.var 0) (.int 0)) (.str [118, 97, 108, 117, 101])) .nil))) (.seq (.ret (.call 5 (.cons (.var 0) .nil))) .skip) .skip) (.seq (.ite (.cmp .in_ (.idx (.var 0) (.int 0)) (.glo 6)) (.seq (.ret (.and (.cons (.cmp .eq (.bi .len (.cons (.var 0) .nil)) (.int 2)) (.cons (.call 7 (.cons (.idx (.var 0) (.int 1)) (.cons (.bin .sub (.var 1) (.int 1)) .nil))) .nil)))) .skip) .skip) (.seq (.ret (.and (.cons (.cmp .in_ (.idx (.var 0) (.int 0)) (.glo 8)) (.cons (.cmp .eq (.bi .len (.cons (.var 0) .nil)) (.int 2)) (.cons (.call 1 (.cons (.idx (.var 0) (.int 1)) (.cons (.bin .sub (.var 1) (.int 1)) .nil))) .nil))))) .skip)))))
def F_queries_is_deep_test : FDef := { np := 2, ns := ["value", "deep"], body := S_queries_is_deep_test }
def S_queries_is_test : S := (.seq (.ret (.call 1 (.cons (.var 0) (.cons (.glo 2) .nil)))) .skip)
def F_queries_is_test : FDef := { np := 1, ns := ["value"], body := S_queries_is_test }
def S_l_law_draws : S := (.seq (.setO 2 (.lst .nil)) (.seq (.set (.nm 3) (.bi .int (.cons (.var 0) .nil))) (.seq (.ite (.cmp .ge (.var 3) (.bin .pow (.int 10) (.int 18))) (.seq (.for_ (.nm 5) (.itRange (.cons (.var 1) .nil)) (.seq (.ite (.cmp .gt (.var 3) (.int 0)) (.seq (.app 2 (.bin .mod (.bi .int (.cons (.var 3) .nil)) (.int 1000))) (.seq (.set (.nm 3) (.bin .fdiv (.var 3) (.int 1000))) .skip)) .skip) .skip)) .skip) .skip) (.seq (.set (.nm 4) (.bin .mod (.bi .int (.cons (.bin .add (.bin .mul (.bi .int (.cons (.var 0) .nil)) (.int 48271)) (.int 11)) .nil)) (.int 2147483647))) (.seq (.for_ (.nm 5) (.itRange (.cons (.var 1) .nil)) (.seq (.set (.nm 4) (.bin .mod (.bi .int (.cons (.bin .add (.bin .add (.bin .mul (.var 4) (.int 48271)) (.bin .mul (.var 5) (.int 69621))) (.int 7)) .nil)) (.int 2147483647))) (.seq (.ite (.cmp .lt (.bi .len (.cons (.bor 2) .nil)) (.var 1)) (.seq (.app 2 (.bin .mod (.bi .int (.cons (.bin .mod (.bi .int (.cons (.bin .add (.bin .mul (.var 4) (.int 69621)) (.int 5)) .nil)) (.int 2147483629)) .nil)) (.int 1000))) .skip) .skip) .skip))) (.seq (.frz 2) (.seq (.ret (.var 2)) .skip)))))))
def F_l_law_draws : FDef := { np := 2, ns := ["cell", "many", "rows", "rest", "state", "k"], body := S_l_law_draws }
def S_l_law_own_test : S := (.seq (.set (.nm 1) (.bin .mod (.bi .int (.cons (.idx (.var 0) (.int 0)) .nil)) (.int 9))) (.seq (.ite (.cmp .lt (.var 1) (.int 3)) (.seq (.ret (.tup (.cons (.str [110, 97, 109, 101]) (.cons (.idx (.str [97, 98, 99]) (.bin .mod (.bi .int (.cons (.idx (.var 0) (.int 1)) .nil)) (.int 3))) .nil)))) .skip) .skip) (.seq (.ite (.cmp .eq (.var 1) (.int 3)) (.seq (.ret (.tup (.cons (.str [109, 97, 114, 107]) (.cons (.idx (.str [109, 110]) (.bin .mod (.bi .int (.cons (.idx (.var 0) (.int 1)) .nil)) (.int 2))) .nil)))) .skip) .skip) (.seq (.ite (.cmp .lt (.var 1) (.int 6)) (.seq (.ret (.tup (.cons (.str [118, 97, 108, 117, 101]) (.cons (.idx (.str [109, 110]) (.bin .mod (.bi .int (.cons (.idx (.var 0) (.int 1)) .nil)) (.int 2))) (.cons (.idx (.lst (.cons (.str []) (.cons (.str [49]) (.cons (.str [120]) .nil)))) (.bin .mod (.bi .int (.cons (.idx (.var 0) (.int 2)) .nil)) (.int 3))) .nil))))) .skip) .skip) (.seq (.ite (.cmp .eq (.var 1) (.int 6)) (.seq (.ret (.tup (.cons (.str [116, 101, 120, 116]) (.cons (.idx (.lst (.cons (.str [120]) (.cons (.str [121]) (.cons (.str []) .nil)))) (.bin .mod (.bi .int (.cons (.idx (.var 0) (.int 1)) .nil)) (.int 3))) .nil)))) .skip) .skip) (.seq (.ret (.ite (.cmp .eq (.var 1) (.int 7)) (.tup (.cons (.str [97, 110, 121]) .nil)) (.tup (.cons (.str [102, 105, 114, 115, 116]) .nil)))) .skip))))))
def F_l_law_own_test : FDef := { np := 1, ns := ["draws", "way"], body := S_l_law_own_test }
def S_l_law_test : S := (.seq (.set (.nm 3) (.bin .mod (.bi .int (.cons (.idx (.var 0) (.int 3)) .nil)) (.int 14))) (.seq (.ite (.or (.cons (.cmp .eq (.var 1) (.int 0)) (.cons (.cmp .lt (.var 3) (.int 3)) .nil))) (.seq (.ret (.call 1004 (.cons (.var 0) .nil))) .skip) .skip) (.seq (.set (.nm 4) (.bin .add (.slc (.var 0) (.int 5) .non) (.slc (.var 0) .non (.int 5)))) (.seq (.ite (.cmp .lt (.var 3) (.int 5)) (.seq (.ret (.tup (.cons (.str [110, 111, 116]) (.cons (.call 1002 (.cons (.var 4) (.cons (.bin .sub (.var 1) (.int 1)) (.cons (.var 2) .nil)))) .nil)))) .skip) .skip) (.seq (.ite (.cmp .lt (.var 3) (.int 9)) (.seq (.ret (.tup (.cons (.idx (.lst (.cons (.str [117, 110, 100, 101, 114]) (.cons (.str [105, 110]) (.cons (.str [110, 101, 120, 116]) (.cons (.str [98, 101, 104, 105, 110, 100]) .nil))))) (.bin .sub (.var 3) (.int 5))) (.cons (.call 1002 (.cons (.var 4) (.cons (.bin .sub (.var 1) (.int 1)) (.cons (.var 2) .nil)))) .nil)))) .skip) .skip) (.seq (.ite (.cmp .lt (.var 3) (.int 12)) (.seq (.set (.nm 5) (.bin .add (.slc (.var 4) (.int 3) .non) (.slc (.var 4) .non (.int 3)))) (.seq (.set (.nm 6) (.tup (.cons (.call 1002 (.cons (.var 4) (.cons (.bin .sub (.var 1) (.int 1)) (.cons (.var 2) .nil)))) (.cons (.call 1002 (.cons (.var 5) (.cons (.bin .sub (.var 1) (.int 1)) (.cons (.var 2) .nil)))) .nil)))) (.seq (.ret (.tup (.cons (.ite (.cmp .lt (.var 3) (.int 11)) (.str [98, 111, 116, 104]) (.str [111, 110, 101])) (.cons (.var 6) .nil)))) .skip))) .skip) (.seq (.ite (.var 2) (.seq (.ret (.call 1004 (.cons (.var 0) .nil))) .skip) .skip) (.seq (.ite (.cmp .eq (.var 3) (.int 12)) (.seq (.ret (.tup (.cons (.idx (.lst (.cons (.str [111, 118, 101, 114]) (.cons (.str [104, 97, 115]) .nil))) (.bin .mod (.bi .int (.cons (.idx (.var 0) (.int 4)) .nil)) (.int 2))) (.cons (.call 1002 (.cons (.var 4) (.cons (.bin .sub (.var 1) (.int 1)) (.cons (.var 2) .nil)))) .nil)))) .skip) .skip) (.seq (.ret (.tup (.cons (.idx (.lst (.cons (.str [108, 97, 115, 116]) (.cons (.str [101, 109, 112, 116, 121]) .nil))) (.bin .mod (.bi .int (.cons (.idx (.var 0) (.int 4)) .nil)) (.int 2))) .nil))) .skip)))))))))
def F_l_law_test : FDef := { np := 3, ns := ["draws", "deep", "back", "way", "more", "rest", "parts"], body := S_l_law_test }
def S_l_law_name : S := (.seq (.ite (.or (.cons (.not (.isi .str (.var 0))) (.cons (.not (.cmp2 .le .le (.int 1) (.bi .len (.cons (.var 0) .nil)) (.int 8))) .nil))) (.seq (.ret (.bl false)) .skip) .skip) (.seq (.ret (.cmp .eq (.comp [1] (.nm 1) (.itV (.var 0)) (.cmp .notIn (.var 1) (.str [97, 98, 99, 100, 101, 102, 103, 104, 105, 106, 107, 108, 109, 110, 111, 112, 113, 114, 115, 116, 117, 118, 119, 120, 121, 122])) (.var 1)) (.lst .nil))) .skip))
def F_l_law_name : FDef := { np := 1, ns := ["value", "sign"], body := S_l_law_name }
def S_l_law_text : S := (.seq (.ite (.or (.cons (.not (.isi .str (.var 0))) (.cons (.cmp .gt (.bi .len (.cons (.var 0) .nil)) (.int 20)) .nil))) (.seq (.ret (.bl false)) .skip) .skip) (.seq (.ret (.cmp .eq (.comp [1] (.nm 1) (.itV (.var 0)) (.not (.cmp2 .le .le (.str [32]) (.var 1) (.str [126]))) (.var 1)) (.lst .nil))) .skip))
def F_l_law_text : FDef := { np := 1, ns := ["value", "sign"], body := S_l_law_text }
def S_l_law_takes : S := (.seq (.ite (.or (.cons (.not (.isi .tuple (.var 0))) (.cons (.cmp .eq (.bi .len (.cons (.var 0) .nil)) (.int 0)) (.cons (.cmp .eq (.var 1) (.int 0)) .nil)))) (.seq (.ret (.bl false)) .skip) .skip) (.seq (.set (.nm 2) (.idx (.var 0) (.int 0))) (.seq (.ite (.cmp .in_ (.var 2) (.tup (.cons (.str [97, 110, 121]) (.cons (.str [102, 105, 114, 115, 116]) (.cons (.str [108, 97, 115, 116]) (.cons (.str [101, 109, 112, 116, 121]) .nil)))))) (.seq (.ret (.cmp .eq (.bi .len (.cons (.var 0) .nil)) (.int 1))) .skip) .skip) (.seq (.ite (.cmp .in_ (.var 2) (.tup (.cons (.str [110, 97, 109, 101]) (.cons (.str [109, 97, 114, 107]) .nil)))) (.seq (.ret (.and (.cons (.cmp .eq (.bi .len (.cons (.var 0) .nil)) (.int 2)) (.cons (.call 1005 (.cons (.idx (.var 0) (.int 1)) .nil)) .nil)))) .skip) .skip) (.seq (.ite (.cmp .eq (.var 2) (.str [116, 101, 120, 116])) (.seq (.ret (.and (.cons (.cmp .eq (.bi .len (.cons (.var 0) .nil)) (.int 2)) (.cons (.call 1006 (.cons (.idx (.var 0) (.int 1)) .nil)) .nil)))) .skip) .skip) (.seq (.ite (.cmp .eq (.var 2) (.str [118, 97, 108, 117, 101])) (.seq (.ret (.and (.cons (.cmp .eq (.bi .len (.cons (.var 0) .nil)) (.int 3)) (.cons (.call 1005 (.cons (.idx (.var 0) (.int 1)) .nil)) (.cons (.call 1006 (.cons (.idx (.var 0) (.int 2)) .nil)) .nil))))) .skip) .skip) (.seq (.ite (.cmp .in_ (.var 2) (.tup (.cons (.str [98, 111, 116, 104]) (.cons (.str [111, 110, 101]) .nil)))) (.seq (.ite (.or (.cons (.cmp .ne (.bi .len (.cons (.var 0) .nil)) (.int 2)) (.cons (.not (.isi .tuple (.idx (.var 0) (.int 1)))) (.cons (.not (.cmp2 .le .le (.int 2) (.bi .len (.cons (.idx (.var 0) (.int 1)) .nil)) (.int 4))) .nil)))) (.seq (.ret (.bl false)) .skip) .skip) (.seq (.ret (.cmp .eq (.comp [3] (.nm 3) (.itV (.idx (.var 0) (.int 1))) (.not (.call 1003 (.cons (.var 3) (.cons (.bin .sub (.var 1) (.int 1)) .nil)))) (.var 3)) (.lst .nil))) .skip)) .skip) (.seq (.ite (.cmp .in_ (.var 2) (.tup (.cons (.str [110, 111, 116]) (.cons (.str [117, 110, 100, 101, 114]) (.cons (.str [105, 110]) (.cons (.str [110, 101, 120, 116]) (.cons (.str [98, 101, 104, 105, 110, 100]) (.cons (.str [111, 118, 101, 114]) (.cons (.str [104, 97, 115]) .nil))))))))) (.seq (.ret (.and (.cons (.cmp .eq (.bi .len (.cons (.var 0) .nil)) (.int 2)) (.cons (.call 1003 (.cons (.idx (.var 0) (.int 1)) (.cons (.bin .sub (.var 1) (.int 1)) .nil))) .nil)))) .skip) .skip) (.seq (.ret (.bl false)) .skip)))))))))
def F_l_law_takes : FDef := { np := 2, ns := ["value", "deep", "kind", "part"], body := S_l_law_takes }
def S_l_law : S := (.seq (.for_ (.nm 1) (.itV (.var 0)) (.seq (.set (.nm 2) (.call 1001 (.cons (.var 1) (.cons (.int 24) .nil)))) (.seq (.set (.nm 3) (.call 1002 (.cons (.var 2) (.cons (.int 3) (.cons (.bl false) .nil))))) (.seq (.set (.nm 4) (.lst (.cons (.tup (.cons (.str [110, 97, 109, 101]) (.cons (.str []) .nil))) (.cons (.tup (.cons (.str [110, 97, 109, 101]) (.cons (.str [97, 98, 99, 100, 101, 102, 103, 104, 105]) .nil))) (.cons (.tup (.cons (.str [110, 97, 109, 101]) (.cons (.str [97, 98, 99, 100, 101, 102, 103, 104]) .nil))) (.cons (.tup (.cons (.str [109, 97, 114, 107]) (.cons (.str [65]) .nil))) (.cons (.tup (.cons (.str [116, 101, 120, 116]) (.cons (.bin .mul (.str [97]) (.int 21)) .nil))) (.cons (.tup (.cons (.str [116, 101, 120, 116]) (.cons (.bin .mul (.str [97]) (.int 20)) .nil))) .nil)))))))) (.seq (.set (.nm 4) (.bin .add (.var 4) (.lst (.cons (.tup (.cons (.str [118, 97, 108, 117, 101]) (.cons (.str [109]) .nil))) (.cons (.tup (.cons (.str [118, 97, 108, 117, 101]) (.cons (.str [109]) (.cons (.int 1) .nil)))) (.cons (.tup (.cons (.str [97, 110, 121]) (.cons (.var 3) .nil))) (.cons (.tup (.cons (.str [98, 111, 116, 104]) (.cons (.tup .nil) .nil))) (.cons (.tup (.cons (.str [98, 111, 116, 104]) (.cons (.tup (.cons (.var 3) .nil)) .nil))) (.cons (.tup (.cons (.str [111, 110, 101]) (.cons (.lst (.cons (.var 3) (.cons (.var 3) .nil))) .nil))) .nil))))))))) (.seq (.set (.nm 4) (.bin .add (.var 4) (.lst (.cons (.tup (.cons (.str [111, 110, 101]) (.cons (.bin .mul (.tup (.cons (.var 3) .nil)) (.int 4)) .nil))) (.cons (.tup (.cons (.str [111, 110, 101]) (.cons (.bin .mul (.tup (.cons (.var 3) .nil)) (.int 5)) .nil))) (.cons (.tup (.cons (.str [110, 111, 116]) .nil)) (.cons (.tup (.cons (.str [110, 111, 116]) (.cons (.var 3) (.cons (.var 3) .nil)))) (.cons (.tup .nil) (.cons (.int 5) (.cons (.str [97, 110, 121]) (.cons (.lst (.cons (.str [97, 110, 121]) .nil)) (.cons (.tup (.cons (.str [110, 111, 110, 101]) .nil)) (.cons (.tup (.cons (.int 5) .nil)) .nil))))))))))))) (.seq (.set (.nm 5) (.ite (.cmp .eq (.bin .mod (.idx (.var 2) (.int 7)) (.int 3)) (.int 0)) (.idx (.var 4) (.bin .mod (.idx (.var 2) (.int 6)) (.bi .len (.cons (.var 4) .nil)))) (.var 3))) (.seq (.for_ (.nm 6) (.itRange (.cons (.bin .mod (.idx (.var 2) (.int 8)) (.int 6)) .nil)) (.seq (.set (.nm 5) (.ite (.cmp .gt (.bin .mod (.idx (.var 2) (.bin .add (.int 9) (.var 6))) (.int 4)) (.int 0)) (.tup (.cons (.idx (.lst (.cons (.str [110, 111, 116]) (.cons (.str [105, 110]) (.cons (.str [104, 97, 115]) .nil)))) (.bin .mod (.idx (.var 2) (.bin .add (.int 9) (.var 6))) (.int 3))) (.cons (.var 5) .nil))) (.tup (.cons (.str [98, 111, 116, 104]) (.cons (.tup (.cons (.tup (.cons (.str [97, 110, 121]) .nil)) (.cons (.var 5) .nil))) .nil))))) .skip)) (.seq (.ite (.cmp .ne (.call 0 (.cons (.var 5) .nil)) (.call 1003 (.cons (.var 5) (.cons (.int 6) .nil)))) (.seq (.ret (.bl false)) .skip) .skip) .skip))))))))) (.seq (.ret (.bl true)) .skip))
def F_l_law : FDef := { np := 1, ns := ["script", "cell", "draws", "test", "odd", "value", "k"], body := S_l_law }
abbrev I_names_is_name : Nat := 10
abbrev I_names_is_plain : Nat := 9
abbrev I_queries_is_word_test : Nat := 5
abbrev I_queries_are_parts : Nat := 7
abbrev I_queries_is_deep_test : Nat := 1
abbrev I_queries_is_test : Nat := 0
abbrev I_l_law_draws : Nat := 1001
abbrev I_l_law_own_test : Nat := 1004
abbrev I_l_law_test : Nat := 1002
abbrev I_l_law_name : Nat := 1005
abbrev I_l_law_text : Nat := 1006
abbrev I_l_law_takes : Nat := 1003
abbrev I_l_law : Nat := 1000
def ftab : FTab := [(10, ("is_name" : PySem.Str), F_names_is_name), (9, ("is_plain" : PySem.Str), F_names_is_plain), (5, ("is_word_test" : PySem.Str), F_queries_is_word_test), (7, ("are_parts" : PySem.Str), F_queries_are_parts), (1, ("is_deep_test" : PySem.Str), F_queries_is_deep_test), (0, ("is_test" : PySem.Str), F_queries_is_test), (1001, ("_law_draws" : PySem.Str), F_l_law_draws), (1004, ("_law_own_test" : PySem.Str), F_l_law_own_test), (1002, ("_law_test" : PySem.Str), F_l_law_test), (1005, ("_law_name" : PySem.Str), F_l_law_name), (1006, ("_law_text" : PySem.Str), F_l_law_text), (1003, ("_law_takes" : PySem.Str), F_l_law_takes), (1000, ("law" : PySem.Str), F_l_law)]
def ctab : CTab := [(2, ("MOST_DEEP" : PySem.Str), (.int 6)), (3, ("PLAIN" : PySem.Str), (.tup [(.str [97, 110, 121]), (.str [102, 105, 114, 115, 116]), (.str [108, 97, 115, 116]), (.str [101, 109, 112, 116, 121])])), (4, ("WORDS" : PySem.Str), (.tup [(.str [110, 97, 109, 101]), (.str [109, 97, 114, 107]), (.str [116, 101, 120, 116])])), (6, ("PARTED" : PySem.Str), (.tup [(.str [98, 111, 116, 104]), (.str [111, 110, 101])])), (8, ("INNER" : PySem.Str), (.tup [(.str [110, 111, 116]), (.str [117, 110, 100, 101, 114]), (.str [105, 110]), (.str [110, 101, 120, 116]), (.str [98, 101, 104, 105, 110, 100]), (.str [111, 118, 101, 114]), (.str [104, 97, 115])])), (11, ("MOST_PARTS" : PySem.Str), (.int 4)), (12, ("SIGNS" : PySem.Str), (.str [32, 33, 34, 35, 36, 38, 39, 40, 41, 42, 43, 44, 45, 46, 47, 48, 49, 50, 51, 52, 53, 54, 55, 56, 57, 58, 59, 60, 61, 62, 63, 64, 65, 66, 67, 68, 69, 70, 71, 72, 73, 74, 75, 76, 77, 78, 79, 80, 81, 82, 83, 84, 85, 86, 87, 88, 89, 90, 91, 92, 93, 94, 95, 96, 97, 98, 99, 100, 101, 102, 103, 104, 105, 106, 107, 108, 109, 110, 111, 112, 113, 114, 115, 116, 117, 118, 119, 120, 121, 122, 123, 124, 125, 126])), (13, ("MOST_TEXT" : PySem.Str), (.int 20)), (14, ("LETTERS" : PySem.Str), (.str [97, 98, 99, 100, 101, 102, 103, 104, 105, 106, 107, 108, 109, 110, 111, 112, 113, 114, 115, 116, 117, 118, 119, 120, 121, 122])), (15, ("MOST_NAME" : PySem.Str), (.int 8))]
abbrev GG := gOf ftab
abbrev CC := cOf ctab
end Ev

set_option maxRecDepth 100000
set_option maxHeartbeats 8000000
namespace Ev
open PySem PySem.Spec PyProof.Rows L2
def topS (i : Nat) : PySem.Stmt := PySem.Challenge.pw_lookon_k00_queries_exactly_what_is_a_tes.main.body.getD i (.Pass ⟨0, 0, 0, 0⟩)
theorem chk_names_is_name : chkF (txtOf ftab ctab) F_names_is_name (topS 5) = true := by decide +kernel
theorem bnd_names_is_name (kV doc pm : Value) (an : Option Addr) (cdv ct : Value) : Bnd (PySem.W.fnOf "is_name" "is_name" (defArgs (topS 5)) (defBody (topS 5)) (defScope (topS 5)) .none kV doc pm an cdv ct) (F_names_is_name.ns.take F_names_is_name.np) := fun us hl => match us, hl with | [_], _ => rfl
theorem chk_names_is_plain : chkF (txtOf ftab ctab) F_names_is_plain (topS 6) = true := by decide +kernel
theorem bnd_names_is_plain (kV doc pm : Value) (an : Option Addr) (cdv ct : Value) : Bnd (PySem.W.fnOf "is_plain" "is_plain" (defArgs (topS 6)) (defBody (topS 6)) (defScope (topS 6)) .none kV doc pm an cdv ct) (F_names_is_plain.ns.take F_names_is_plain.np) := fun us hl => match us, hl with | [_], _ => rfl
theorem chk_queries_is_word_test : chkF (txtOf ftab ctab) F_queries_is_word_test (topS 14) = true := by decide +kernel
theorem bnd_queries_is_word_test (kV doc pm : Value) (an : Option Addr) (cdv ct : Value) : Bnd (PySem.W.fnOf "is_word_test" "is_word_test" (defArgs (topS 14)) (defBody (topS 14)) (defScope (topS 14)) .none kV doc pm an cdv ct) (F_queries_is_word_test.ns.take F_queries_is_word_test.np) := fun us hl => match us, hl with | [_], _ => rfl
theorem chk_queries_are_parts : chkF (txtOf ftab ctab) F_queries_are_parts (topS 15) = true := by decide +kernel
theorem bnd_queries_are_parts (kV doc pm : Value) (an : Option Addr) (cdv ct : Value) : Bnd (PySem.W.fnOf "are_parts" "are_parts" (defArgs (topS 15)) (defBody (topS 15)) (defScope (topS 15)) .none kV doc pm an cdv ct) (F_queries_are_parts.ns.take F_queries_are_parts.np) := fun us hl => match us, hl with | [_, _], _ => rfl
theorem chk_queries_is_deep_test : chkF (txtOf ftab ctab) F_queries_is_deep_test (topS 16) = true := by decide +kernel
theorem bnd_queries_is_deep_test (kV doc pm : Value) (an : Option Addr) (cdv ct : Value) : Bnd (PySem.W.fnOf "is_deep_test" "is_deep_test" (defArgs (topS 16)) (defBody (topS 16)) (defScope (topS 16)) .none kV doc pm an cdv ct) (F_queries_is_deep_test.ns.take F_queries_is_deep_test.np) := fun us hl => match us, hl with | [_, _], _ => rfl
theorem chk_queries_is_test : chkF (txtOf ftab ctab) F_queries_is_test (topS 17) = true := by decide +kernel
theorem bnd_queries_is_test (kV doc pm : Value) (an : Option Addr) (cdv ct : Value) : Bnd (PySem.W.fnOf "is_test" "is_test" (defArgs (topS 17)) (defBody (topS 17)) (defScope (topS 17)) .none kV doc pm an cdv ct) (F_queries_is_test.ns.take F_queries_is_test.np) := fun us hl => match us, hl with | [_], _ => rfl
theorem chk_l_law_draws : chkF (txtOf ftab ctab) F_l_law_draws (topS 19) = true := by decide +kernel
theorem bnd_l_law_draws (kV doc pm : Value) (an : Option Addr) (cdv ct : Value) : Bnd (PySem.W.fnOf "_law_draws" "_law_draws" (defArgs (topS 19)) (defBody (topS 19)) (defScope (topS 19)) .none kV doc pm an cdv ct) (F_l_law_draws.ns.take F_l_law_draws.np) := fun us hl => match us, hl with | [_, _], _ => rfl
theorem chk_l_law_own_test : chkF (txtOf ftab ctab) F_l_law_own_test (topS 20) = true := by decide +kernel
theorem bnd_l_law_own_test (kV doc pm : Value) (an : Option Addr) (cdv ct : Value) : Bnd (PySem.W.fnOf "_law_own_test" "_law_own_test" (defArgs (topS 20)) (defBody (topS 20)) (defScope (topS 20)) .none kV doc pm an cdv ct) (F_l_law_own_test.ns.take F_l_law_own_test.np) := fun us hl => match us, hl with | [_], _ => rfl
theorem chk_l_law_test : chkF (txtOf ftab ctab) F_l_law_test (topS 21) = true := by decide +kernel
theorem bnd_l_law_test (kV doc pm : Value) (an : Option Addr) (cdv ct : Value) : Bnd (PySem.W.fnOf "_law_test" "_law_test" (defArgs (topS 21)) (defBody (topS 21)) (defScope (topS 21)) .none kV doc pm an cdv ct) (F_l_law_test.ns.take F_l_law_test.np) := fun us hl => match us, hl with | [_, _, _], _ => rfl
theorem chk_l_law_name : chkF (txtOf ftab ctab) F_l_law_name (topS 22) = true := by decide +kernel
theorem bnd_l_law_name (kV doc pm : Value) (an : Option Addr) (cdv ct : Value) : Bnd (PySem.W.fnOf "_law_name" "_law_name" (defArgs (topS 22)) (defBody (topS 22)) (defScope (topS 22)) .none kV doc pm an cdv ct) (F_l_law_name.ns.take F_l_law_name.np) := fun us hl => match us, hl with | [_], _ => rfl
theorem chk_l_law_text : chkF (txtOf ftab ctab) F_l_law_text (topS 23) = true := by decide +kernel
theorem bnd_l_law_text (kV doc pm : Value) (an : Option Addr) (cdv ct : Value) : Bnd (PySem.W.fnOf "_law_text" "_law_text" (defArgs (topS 23)) (defBody (topS 23)) (defScope (topS 23)) .none kV doc pm an cdv ct) (F_l_law_text.ns.take F_l_law_text.np) := fun us hl => match us, hl with | [_], _ => rfl
theorem chk_l_law_takes : chkF (txtOf ftab ctab) F_l_law_takes (topS 24) = true := by decide +kernel
theorem bnd_l_law_takes (kV doc pm : Value) (an : Option Addr) (cdv ct : Value) : Bnd (PySem.W.fnOf "_law_takes" "_law_takes" (defArgs (topS 24)) (defBody (topS 24)) (defScope (topS 24)) .none kV doc pm an cdv ct) (F_l_law_takes.ns.take F_l_law_takes.np) := fun us hl => match us, hl with | [_, _], _ => rfl
theorem chk_l_law : chkF (txtOf ftab ctab) F_l_law (topS 25) = true := by decide +kernel
theorem bnd_l_law (kV doc pm : Value) (an : Option Addr) (cdv ct : Value) : Bnd (PySem.W.fnOf "law" "law" (defArgs (topS 25)) (defBody (topS 25)) (defScope (topS 25)) .none kV doc pm an cdv ct) (F_l_law.ns.take F_l_law.np) := fun us hl => match us, hl with | [_], _ => rfl
theorem all_mk {K : PySem.W.Frag} {h : Heap} {mg : Str → Option Value} (X : K.In h) (G : h.Ns mainGlobals mg)
    {f0 : Addr} {oc0 : Value} {od0 an0 : Option Addr} {sl0 : Array (Option Value)} {kV0 dc0 pm0 cd0 ct0 : Value}
    (a0 : PySem.W.nsIn K mainGlobals "is_name" = some (some (.ref f0))) (l0 : K.lookup f0 = some ⟨oc0, od0, .func (PySem.W.fnOf "is_name" "is_name" (defArgs (topS 5)) (defBody (topS 5)) (defScope (topS 5)) .none kV0 dc0 pm0 an0 cd0 ct0), sl0⟩) (c0 : PySem.W.codeIn K cd0 "is_name" = true) (k0 : PySem.W.keepIn K (.ref f0) = true)
    {f1 : Addr} {oc1 : Value} {od1 an1 : Option Addr} {sl1 : Array (Option Value)} {kV1 dc1 pm1 cd1 ct1 : Value}
    (a1 : PySem.W.nsIn K mainGlobals "is_plain" = some (some (.ref f1))) (l1 : K.lookup f1 = some ⟨oc1, od1, .func (PySem.W.fnOf "is_plain" "is_plain" (defArgs (topS 6)) (defBody (topS 6)) (defScope (topS 6)) .none kV1 dc1 pm1 an1 cd1 ct1), sl1⟩) (c1 : PySem.W.codeIn K cd1 "is_plain" = true) (k1 : PySem.W.keepIn K (.ref f1) = true)
    {f2 : Addr} {oc2 : Value} {od2 an2 : Option Addr} {sl2 : Array (Option Value)} {kV2 dc2 pm2 cd2 ct2 : Value}
    (a2 : PySem.W.nsIn K mainGlobals "is_word_test" = some (some (.ref f2))) (l2 : K.lookup f2 = some ⟨oc2, od2, .func (PySem.W.fnOf "is_word_test" "is_word_test" (defArgs (topS 14)) (defBody (topS 14)) (defScope (topS 14)) .none kV2 dc2 pm2 an2 cd2 ct2), sl2⟩) (c2 : PySem.W.codeIn K cd2 "is_word_test" = true) (k2 : PySem.W.keepIn K (.ref f2) = true)
    {f3 : Addr} {oc3 : Value} {od3 an3 : Option Addr} {sl3 : Array (Option Value)} {kV3 dc3 pm3 cd3 ct3 : Value}
    (a3 : PySem.W.nsIn K mainGlobals "are_parts" = some (some (.ref f3))) (l3 : K.lookup f3 = some ⟨oc3, od3, .func (PySem.W.fnOf "are_parts" "are_parts" (defArgs (topS 15)) (defBody (topS 15)) (defScope (topS 15)) .none kV3 dc3 pm3 an3 cd3 ct3), sl3⟩) (c3 : PySem.W.codeIn K cd3 "are_parts" = true) (k3 : PySem.W.keepIn K (.ref f3) = true)
    {f4 : Addr} {oc4 : Value} {od4 an4 : Option Addr} {sl4 : Array (Option Value)} {kV4 dc4 pm4 cd4 ct4 : Value}
    (a4 : PySem.W.nsIn K mainGlobals "is_deep_test" = some (some (.ref f4))) (l4 : K.lookup f4 = some ⟨oc4, od4, .func (PySem.W.fnOf "is_deep_test" "is_deep_test" (defArgs (topS 16)) (defBody (topS 16)) (defScope (topS 16)) .none kV4 dc4 pm4 an4 cd4 ct4), sl4⟩) (c4 : PySem.W.codeIn K cd4 "is_deep_test" = true) (k4 : PySem.W.keepIn K (.ref f4) = true)
    {f5 : Addr} {oc5 : Value} {od5 an5 : Option Addr} {sl5 : Array (Option Value)} {kV5 dc5 pm5 cd5 ct5 : Value}
    (a5 : PySem.W.nsIn K mainGlobals "is_test" = some (some (.ref f5))) (l5 : K.lookup f5 = some ⟨oc5, od5, .func (PySem.W.fnOf "is_test" "is_test" (defArgs (topS 17)) (defBody (topS 17)) (defScope (topS 17)) .none kV5 dc5 pm5 an5 cd5 ct5), sl5⟩) (c5 : PySem.W.codeIn K cd5 "is_test" = true) (k5 : PySem.W.keepIn K (.ref f5) = true)
    {f6 : Addr} {oc6 : Value} {od6 an6 : Option Addr} {sl6 : Array (Option Value)} {kV6 dc6 pm6 cd6 ct6 : Value}
    (a6 : PySem.W.nsIn K mainGlobals "_law_draws" = some (some (.ref f6))) (l6 : K.lookup f6 = some ⟨oc6, od6, .func (PySem.W.fnOf "_law_draws" "_law_draws" (defArgs (topS 19)) (defBody (topS 19)) (defScope (topS 19)) .none kV6 dc6 pm6 an6 cd6 ct6), sl6⟩) (c6 : PySem.W.codeIn K cd6 "_law_draws" = true) (k6 : PySem.W.keepIn K (.ref f6) = true)
    {f7 : Addr} {oc7 : Value} {od7 an7 : Option Addr} {sl7 : Array (Option Value)} {kV7 dc7 pm7 cd7 ct7 : Value}
    (a7 : PySem.W.nsIn K mainGlobals "_law_own_test" = some (some (.ref f7))) (l7 : K.lookup f7 = some ⟨oc7, od7, .func (PySem.W.fnOf "_law_own_test" "_law_own_test" (defArgs (topS 20)) (defBody (topS 20)) (defScope (topS 20)) .none kV7 dc7 pm7 an7 cd7 ct7), sl7⟩) (c7 : PySem.W.codeIn K cd7 "_law_own_test" = true) (k7 : PySem.W.keepIn K (.ref f7) = true)
    {f8 : Addr} {oc8 : Value} {od8 an8 : Option Addr} {sl8 : Array (Option Value)} {kV8 dc8 pm8 cd8 ct8 : Value}
    (a8 : PySem.W.nsIn K mainGlobals "_law_test" = some (some (.ref f8))) (l8 : K.lookup f8 = some ⟨oc8, od8, .func (PySem.W.fnOf "_law_test" "_law_test" (defArgs (topS 21)) (defBody (topS 21)) (defScope (topS 21)) .none kV8 dc8 pm8 an8 cd8 ct8), sl8⟩) (c8 : PySem.W.codeIn K cd8 "_law_test" = true) (k8 : PySem.W.keepIn K (.ref f8) = true)
    {f9 : Addr} {oc9 : Value} {od9 an9 : Option Addr} {sl9 : Array (Option Value)} {kV9 dc9 pm9 cd9 ct9 : Value}
    (a9 : PySem.W.nsIn K mainGlobals "_law_name" = some (some (.ref f9))) (l9 : K.lookup f9 = some ⟨oc9, od9, .func (PySem.W.fnOf "_law_name" "_law_name" (defArgs (topS 22)) (defBody (topS 22)) (defScope (topS 22)) .none kV9 dc9 pm9 an9 cd9 ct9), sl9⟩) (c9 : PySem.W.codeIn K cd9 "_law_name" = true) (k9 : PySem.W.keepIn K (.ref f9) = true)
    {f10 : Addr} {oc10 : Value} {od10 an10 : Option Addr} {sl10 : Array (Option Value)} {kV10 dc10 pm10 cd10 ct10 : Value}
    (a10 : PySem.W.nsIn K mainGlobals "_law_text" = some (some (.ref f10))) (l10 : K.lookup f10 = some ⟨oc10, od10, .func (PySem.W.fnOf "_law_text" "_law_text" (defArgs (topS 23)) (defBody (topS 23)) (defScope (topS 23)) .none kV10 dc10 pm10 an10 cd10 ct10), sl10⟩) (c10 : PySem.W.codeIn K cd10 "_law_text" = true) (k10 : PySem.W.keepIn K (.ref f10) = true)
    {f11 : Addr} {oc11 : Value} {od11 an11 : Option Addr} {sl11 : Array (Option Value)} {kV11 dc11 pm11 cd11 ct11 : Value}
    (a11 : PySem.W.nsIn K mainGlobals "_law_takes" = some (some (.ref f11))) (l11 : K.lookup f11 = some ⟨oc11, od11, .func (PySem.W.fnOf "_law_takes" "_law_takes" (defArgs (topS 24)) (defBody (topS 24)) (defScope (topS 24)) .none kV11 dc11 pm11 an11 cd11 ct11), sl11⟩) (c11 : PySem.W.codeIn K cd11 "_law_takes" = true) (k11 : PySem.W.keepIn K (.ref f11) = true)
    {f12 : Addr} {oc12 : Value} {od12 an12 : Option Addr} {sl12 : Array (Option Value)} {kV12 dc12 pm12 cd12 ct12 : Value}
    (a12 : PySem.W.nsIn K mainGlobals "law" = some (some (.ref f12))) (l12 : K.lookup f12 = some ⟨oc12, od12, .func (PySem.W.fnOf "law" "law" (defArgs (topS 25)) (defBody (topS 25)) (defScope (topS 25)) .none kV12 dc12 pm12 an12 cd12 ct12), sl12⟩) (c12 : PySem.W.codeIn K cd12 "law" = true) (k12 : PySem.W.keepIn K (.ref f12) = true)
    {u0 : Value} (d0 : PySem.W.nsIn K mainGlobals "MOST_DEEP" = some (some u0))
    (q0 : statB [] (.int 6) (u0) = true)
    {t1_0 : Addr} {i1_0 : Array Value} {ot1_0 : Option Addr} {nt1_0 : Nat} {st1_0 : Array (Option Value)}
    (ht1_0 : PySem.W.nsIn K mainGlobals "PLAIN" = some (some (.ref t1_0)))
    (lt1_0 : K.lookup t1_0 = some ⟨.type "tuple", ot1_0, .seq i1_0 nt1_0, st1_0⟩)
    (q1 : statB [(t1_0, i1_0)] (.tup [(.str [97, 110, 121]), (.str [102, 105, 114, 115, 116]), (.str [108, 97, 115, 116]), (.str [101, 109, 112, 116, 121])]) (.ref t1_0) = true)
    {t2_0 : Addr} {i2_0 : Array Value} {ot2_0 : Option Addr} {nt2_0 : Nat} {st2_0 : Array (Option Value)}
    (ht2_0 : PySem.W.nsIn K mainGlobals "WORDS" = some (some (.ref t2_0)))
    (lt2_0 : K.lookup t2_0 = some ⟨.type "tuple", ot2_0, .seq i2_0 nt2_0, st2_0⟩)
    (q2 : statB [(t2_0, i2_0)] (.tup [(.str [110, 97, 109, 101]), (.str [109, 97, 114, 107]), (.str [116, 101, 120, 116])]) (.ref t2_0) = true)
    {t3_0 : Addr} {i3_0 : Array Value} {ot3_0 : Option Addr} {nt3_0 : Nat} {st3_0 : Array (Option Value)}
    (ht3_0 : PySem.W.nsIn K mainGlobals "PARTED" = some (some (.ref t3_0)))
    (lt3_0 : K.lookup t3_0 = some ⟨.type "tuple", ot3_0, .seq i3_0 nt3_0, st3_0⟩)
    (q3 : statB [(t3_0, i3_0)] (.tup [(.str [98, 111, 116, 104]), (.str [111, 110, 101])]) (.ref t3_0) = true)
    {t4_0 : Addr} {i4_0 : Array Value} {ot4_0 : Option Addr} {nt4_0 : Nat} {st4_0 : Array (Option Value)}
    (ht4_0 : PySem.W.nsIn K mainGlobals "INNER" = some (some (.ref t4_0)))
    (lt4_0 : K.lookup t4_0 = some ⟨.type "tuple", ot4_0, .seq i4_0 nt4_0, st4_0⟩)
    (q4 : statB [(t4_0, i4_0)] (.tup [(.str [110, 111, 116]), (.str [117, 110, 100, 101, 114]), (.str [105, 110]), (.str [110, 101, 120, 116]), (.str [98, 101, 104, 105, 110, 100]), (.str [111, 118, 101, 114]), (.str [104, 97, 115])]) (.ref t4_0) = true)
    {u5 : Value} (d5 : PySem.W.nsIn K mainGlobals "MOST_PARTS" = some (some u5))
    (q5 : statB [] (.int 4) (u5) = true)
    {u6 : Value} (d6 : PySem.W.nsIn K mainGlobals "SIGNS" = some (some u6))
    (q6 : statB [] (.str [32, 33, 34, 35, 36, 38, 39, 40, 41, 42, 43, 44, 45, 46, 47, 48, 49, 50, 51, 52, 53, 54, 55, 56, 57, 58, 59, 60, 61, 62, 63, 64, 65, 66, 67, 68, 69, 70, 71, 72, 73, 74, 75, 76, 77, 78, 79, 80, 81, 82, 83, 84, 85, 86, 87, 88, 89, 90, 91, 92, 93, 94, 95, 96, 97, 98, 99, 100, 101, 102, 103, 104, 105, 106, 107, 108, 109, 110, 111, 112, 113, 114, 115, 116, 117, 118, 119, 120, 121, 122, 123, 124, 125, 126]) (u6) = true)
    {u7 : Value} (d7 : PySem.W.nsIn K mainGlobals "MOST_TEXT" = some (some u7))
    (q7 : statB [] (.int 20) (u7) = true)
    {u8 : Value} (d8 : PySem.W.nsIn K mainGlobals "LETTERS" = some (some u8))
    (q8 : statB [] (.str [97, 98, 99, 100, 101, 102, 103, 104, 105, 106, 107, 108, 109, 110, 111, 112, 113, 114, 115, 116, 117, 118, 119, 120, 121, 122]) (u8) = true)
    {u9 : Value} (d9 : PySem.W.nsIn K mainGlobals "MOST_NAME" = some (some u9))
    (q9 : statB [] (.int 8) (u9) = true)
    (z0 : PySem.W.nsIn K mainGlobals "len" = some none)
    (z1 : PySem.W.nsIn K mainGlobals "int" = some none)
    (z2 : PySem.W.nsIn K mainGlobals "tuple" = some none)
    (z3 : PySem.W.nsIn K mainGlobals "list" = some none)
    (z4 : PySem.W.nsIn K mainGlobals "all" = some none)
    (z5 : PySem.W.nsIn K mainGlobals "any" = some none)
    (z6 : PySem.W.nsIn K mainGlobals "sorted" = some none)
    (z7 : PySem.W.nsIn K mainGlobals "min" = some none)
    (z8 : PySem.W.nsIn K mainGlobals "max" = some none)
    (z9 : PySem.W.nsIn K mainGlobals "sum" = some none)
    (z10 : PySem.W.nsIn K mainGlobals "isinstance" = some none)
    (z11 : PySem.W.nsIn K mainGlobals "range" = some none)
    (z12 : PySem.W.nsIn K mainGlobals "enumerate" = some none)
    (z13 : PySem.W.nsIn K mainGlobals "zip" = some none)
    (z14 : PySem.W.nsIn K mainGlobals "reversed" = some none)
    (z15 : PySem.W.nsIn K mainGlobals "str" = some none)
    (z16 : PySem.W.nsIn K mainGlobals "bool" = some none)
    (z17 : PySem.W.nsIn K mainGlobals "set" = some none)
    (z18 : PySem.W.nsIn K mainGlobals "dict" = some none)
    : Top K mg (txtOf ftab ctab) GG CC :=
  top_mk ⟨fnAt X G (topS 5) a0 l0 c0 k0 chk_names_is_name bnd_names_is_name, fnAt X G (topS 6) a1 l1 c1 k1 chk_names_is_plain bnd_names_is_plain, fnAt X G (topS 14) a2 l2 c2 k2 chk_queries_is_word_test bnd_queries_is_word_test, fnAt X G (topS 15) a3 l3 c3 k3 chk_queries_are_parts bnd_queries_are_parts, fnAt X G (topS 16) a4 l4 c4 k4 chk_queries_is_deep_test bnd_queries_is_deep_test, fnAt X G (topS 17) a5 l5 c5 k5 chk_queries_is_test bnd_queries_is_test, fnAt X G (topS 19) a6 l6 c6 k6 chk_l_law_draws bnd_l_law_draws, fnAt X G (topS 20) a7 l7 c7 k7 chk_l_law_own_test bnd_l_law_own_test, fnAt X G (topS 21) a8 l8 c8 k8 chk_l_law_test bnd_l_law_test, fnAt X G (topS 22) a9 l9 c9 k9 chk_l_law_name bnd_l_law_name, fnAt X G (topS 23) a10 l10 c10 k10 chk_l_law_text bnd_l_law_text, fnAt X G (topS 24) a11 l11 c11 k11 chk_l_law_takes bnd_l_law_takes, fnAt X G (topS 25) a12 l12 c12 k12 chk_l_law bnd_l_law, trivial⟩
    ⟨conAt X G [] d0 trivial q0,
      conAt X G [(t1_0, i1_0)] ht1_0 ⟨⟨_, _, _, lt1_0⟩, trivial⟩ q1,
      conAt X G [(t2_0, i2_0)] ht2_0 ⟨⟨_, _, _, lt2_0⟩, trivial⟩ q2,
      conAt X G [(t3_0, i3_0)] ht3_0 ⟨⟨_, _, _, lt3_0⟩, trivial⟩ q3,
      conAt X G [(t4_0, i4_0)] ht4_0 ⟨⟨_, _, _, lt4_0⟩, trivial⟩ q4,
      conAt X G [] d5 trivial q5,
      conAt X G [] d6 trivial q6,
      conAt X G [] d7 trivial q7,
      conAt X G [] d8 trivial q8,
      conAt X G [] d9 trivial q9,
      trivial⟩ (free_of X G ⟨z0, z1, z2, z3, z4, z5, z6, z7, z8, z9, z10, z11, z12, z13, z14, z15, z16, z17, z18, trivial⟩)
end Ev

set_option maxRecDepth 100000
set_option maxHeartbeats 8000000
namespace Ev
theorem con_15 : CC 15 = some (.int 8) := rfl
theorem con_14 : CC 14 = some (.str [97, 98, 99, 100, 101, 102, 103, 104, 105, 106, 107, 108, 109, 110, 111, 112, 113, 114, 115, 116, 117, 118, 119, 120, 121, 122]) := rfl
def isNameD : D → Bool
  | .str cs => decide (1 ≤ cs.length) && decide (cs.length ≤ 8) && cs.all fun c => decide (97 ≤ c) && decide (c ≤ 122)
  | _ => false
def lettersL : List Nat := [97, 98, 99, 100, 101, 102, 103, 104, 105, 106, 107, 108, 109, 110, 111, 112, 113, 114, 115, 116, 117, 118, 119, 120, 121, 122]
theorem mem_letters (c : Nat) : decide (c ∈ lettersL) = (decide (97 ≤ c) && decide (c ≤ 122)) := by
  by_cases h : c ∈ lettersL
  · rw [decide_eq_true h]
    simp [ev, evs, evI, evAnd, evOr, ex, start, E.isNil, setTg, bind_ok, bind_exc, bind_bad, bind_ite, bind_bind, noexc_ok, lift_some, lift_none, lift_ite, fin_ret, fin_next, cmp_eq, cmp_ne, cmp_lt, cmp_le, cmp_gt, cmp_ge, cmp_in, cmp_notIn, cmp_leS, cmp_ltS, cmp_is, cmp_isNot, in_tup, in_lst, in_str, eqQ_int, eqQ_str, add_int, sub_int, add_lst, add_tup, add_str, idx_lst, idx_tup, idx_str, tru_bl, tru_int, tru_lst, tru_tup, tru_str, tru_non, len_lst, len_tup, len_str, bi_int, bi_all, bi_any, bi_tuple, seq_lst, seq_tup, seq_str, tst_nil, tst_c, map_some, map_ite, isi_tup_t, isi_str_t, wipe_nil, wipe_cons, lettersL] at h
    simp [ev, evs, evI, evAnd, evOr, ex, start, E.isNil, setTg, bind_ok, bind_exc, bind_bad, bind_ite, bind_bind, noexc_ok, lift_some, lift_none, lift_ite, fin_ret, fin_next, cmp_eq, cmp_ne, cmp_lt, cmp_le, cmp_gt, cmp_ge, cmp_in, cmp_notIn, cmp_leS, cmp_ltS, cmp_is, cmp_isNot, in_tup, in_lst, in_str, eqQ_int, eqQ_str, add_int, sub_int, add_lst, add_tup, add_str, idx_lst, idx_tup, idx_str, tru_bl, tru_int, tru_lst, tru_tup, tru_str, tru_non, len_lst, len_tup, len_str, bi_int, bi_all, bi_any, bi_tuple, seq_lst, seq_tup, seq_str, tst_nil, tst_c, map_some, map_ite, isi_tup_t, isi_str_t, wipe_nil, wipe_cons]
    omega
  · rw [decide_eq_false h]
    simp [ev, evs, evI, evAnd, evOr, ex, start, E.isNil, setTg, bind_ok, bind_exc, bind_bad, bind_ite, bind_bind, noexc_ok, lift_some, lift_none, lift_ite, fin_ret, fin_next, cmp_eq, cmp_ne, cmp_lt, cmp_le, cmp_gt, cmp_ge, cmp_in, cmp_notIn, cmp_leS, cmp_ltS, cmp_is, cmp_isNot, in_tup, in_lst, in_str, eqQ_int, eqQ_str, add_int, sub_int, add_lst, add_tup, add_str, idx_lst, idx_tup, idx_str, tru_bl, tru_int, tru_lst, tru_tup, tru_str, tru_non, len_lst, len_tup, len_str, bi_int, bi_all, bi_any, bi_tuple, seq_lst, seq_tup, seq_str, tst_nil, tst_c, map_some, map_ite, isi_tup_t, isi_str_t, wipe_nil, wipe_cons, lettersL] at h
    simp [ev, evs, evI, evAnd, evOr, ex, start, E.isNil, setTg, bind_ok, bind_exc, bind_bad, bind_ite, bind_bind, noexc_ok, lift_some, lift_none, lift_ite, fin_ret, fin_next, cmp_eq, cmp_ne, cmp_lt, cmp_le, cmp_gt, cmp_ge, cmp_in, cmp_notIn, cmp_leS, cmp_ltS, cmp_is, cmp_isNot, in_tup, in_lst, in_str, eqQ_int, eqQ_str, add_int, sub_int, add_lst, add_tup, add_str, idx_lst, idx_tup, idx_str, tru_bl, tru_int, tru_lst, tru_tup, tru_str, tru_non, len_lst, len_tup, len_str, bi_int, bi_all, bi_any, bi_tuple, seq_lst, seq_tup, seq_str, tst_nil, tst_c, map_some, map_ite, isi_tup_t, isi_str_t, wipe_nil, wipe_cons]
    omega
theorem map_str {cs : List Nat} {f : Nat → D} {g : D → D} (h : ∀ c, g (.str [c]) = f c) : ((cs.map fun c => D.str [c]).filter fun _ => true).map g = cs.map f := by
  rw [List.filter_eq_self.mpr (by simp [ev, evs, evI, evAnd, evOr, ex, start, E.isNil, setTg, bind_ok, bind_exc, bind_bad, bind_ite, bind_bind, noexc_ok, lift_some, lift_none, lift_ite, fin_ret, fin_next, cmp_eq, cmp_ne, cmp_lt, cmp_le, cmp_gt, cmp_ge, cmp_in, cmp_notIn, cmp_leS, cmp_ltS, cmp_is, cmp_isNot, in_tup, in_lst, in_str, eqQ_int, eqQ_str, add_int, sub_int, add_lst, add_tup, add_str, idx_lst, idx_tup, idx_str, tru_bl, tru_int, tru_lst, tru_tup, tru_str, tru_non, len_lst, len_tup, len_str, bi_int, bi_all, bi_any, bi_tuple, seq_lst, seq_tup, seq_str, tst_nil, tst_c, map_some, map_ite, isi_tup_t, isi_str_t, wipe_nil, wipe_cons]), List.map_map]
  exact List.map_congr_left fun c _ => h c
def codeOf : D → Nat
  | .str [c] => c
  | _ => 0
theorem call_is_name {k : Nat} {v : D} {M : Mem} (h : v.nobj = true) : callK GG CC 0 (k + 1) I_names_is_name [v] M = .ok (D.bl (isNameD v)) M := by
  rw [callK_at (fd := F_names_is_name) rfl rfl]
  cases v with
  | str cs =>
    simp [ev, evs, evI, evAnd, evOr, ex, start, E.isNil, setTg, bind_ok, bind_exc, bind_bad, bind_ite, bind_bind, noexc_ok, lift_some, lift_none, lift_ite, fin_ret, fin_next, cmp_eq, cmp_ne, cmp_lt, cmp_le, cmp_gt, cmp_ge, cmp_in, cmp_notIn, cmp_leS, cmp_ltS, cmp_is, cmp_isNot, in_tup, in_lst, in_str, eqQ_int, eqQ_str, add_int, sub_int, add_lst, add_tup, add_str, idx_lst, idx_tup, idx_str, tru_bl, tru_int, tru_lst, tru_tup, tru_str, tru_non, len_lst, len_tup, len_str, bi_int, bi_all, bi_any, bi_tuple, seq_lst, seq_tup, seq_str, tst_nil, tst_c, map_some, map_ite, isi_tup_t, isi_str_t, wipe_nil, wipe_cons, F_names_is_name, S_names_is_name, con_15, con_14]
    rw [compL_pure (fun _ => true) (fun d => .bl (decide (codeOf d ∈ lettersL))) _ (fun x hx => by
      obtain ⟨c, hc, rfl⟩ := List.mem_map.mp hx
      exact ⟨_, rfl, rfl, fun _ => rfl⟩), map_str (f := fun c => .bl (decide (c ∈ lettersL))) fun _ => rfl]
    simp [ev, evs, evI, evAnd, evOr, ex, start, E.isNil, setTg, bind_ok, bind_exc, bind_bad, bind_ite, bind_bind, noexc_ok, lift_some, lift_none, lift_ite, fin_ret, fin_next, cmp_eq, cmp_ne, cmp_lt, cmp_le, cmp_gt, cmp_ge, cmp_in, cmp_notIn, cmp_leS, cmp_ltS, cmp_is, cmp_isNot, in_tup, in_lst, in_str, eqQ_int, eqQ_str, add_int, sub_int, add_lst, add_tup, add_str, idx_lst, idx_tup, idx_str, tru_bl, tru_int, tru_lst, tru_tup, tru_str, tru_non, len_lst, len_tup, len_str, bi_int, bi_all, bi_any, bi_tuple, seq_lst, seq_tup, seq_str, tst_nil, tst_c, map_some, map_ite, isi_tup_t, isi_str_t, wipe_nil, wipe_cons, boolsOf_map, mem_letters, isNameD]
    by_cases h1 : 1 ≤ (cs.length : Int) <;> by_cases h2 : (cs.length : Int) ≤ 8 <;> simp [ev, evs, evI, evAnd, evOr, ex, start, E.isNil, setTg, bind_ok, bind_exc, bind_bad, bind_ite, bind_bind, noexc_ok, lift_some, lift_none, lift_ite, fin_ret, fin_next, cmp_eq, cmp_ne, cmp_lt, cmp_le, cmp_gt, cmp_ge, cmp_in, cmp_notIn, cmp_leS, cmp_ltS, cmp_is, cmp_isNot, in_tup, in_lst, in_str, eqQ_int, eqQ_str, add_int, sub_int, add_lst, add_tup, add_str, idx_lst, idx_tup, idx_str, tru_bl, tru_int, tru_lst, tru_tup, tru_str, tru_non, len_lst, len_tup, len_str, bi_int, bi_all, bi_any, bi_tuple, seq_lst, seq_tup, seq_str, tst_nil, tst_c, map_some, map_ite, isi_tup_t, isi_str_t, wipe_nil, wipe_cons, h1, h2] <;> omega
  | obj n => cases h
  | _ => rfl
mutual
/-- no reference, no % -/
def okD : D → Bool
  | .tup xs => okDs xs
  | .lst xs => okDs xs
  | .obj _ => false
  | .str cs => cs.all (· != 37)
  | .non | .bl _ | .int _ => true
def okDs : List D → Bool
  | [] => true
  | x :: xs => okD x && okDs xs
end
mutual
theorem okD_nobj : ∀ (d : D), okD d = true → d.nobj = true
  | .tup xs, h => okDs_nobj xs h
  | .lst xs, h => okDs_nobj xs h
  | .obj _, h => absurd h Bool.false_ne_true
  | .str _, _ => rfl
  | .non, _ => rfl
  | .bl _, _ => rfl
  | .int _, _ => rfl
theorem okDs_nobj : ∀ (ds : List D), okDs ds = true → nobjs ds = true
  | [], _ => rfl
  | d :: ds, h => by
    simp only [okDs, Bool.and_eq_true] at h
    simp [ev, evs, evI, evAnd, evOr, ex, start, E.isNil, setTg, bind_ok, bind_exc, bind_bad, bind_ite, bind_bind, noexc_ok, lift_some, lift_none, lift_ite, fin_ret, fin_next, cmp_eq, cmp_ne, cmp_lt, cmp_le, cmp_gt, cmp_ge, cmp_in, cmp_notIn, cmp_leS, cmp_ltS, cmp_is, cmp_isNot, in_tup, in_lst, in_str, eqQ_int, eqQ_str, add_int, sub_int, add_lst, add_tup, add_str, idx_lst, idx_tup, idx_str, tru_bl, tru_int, tru_lst, tru_tup, tru_str, tru_non, len_lst, len_tup, len_str, bi_int, bi_all, bi_any, bi_tuple, seq_lst, seq_tup, seq_str, tst_nil, tst_c, map_some, map_ite, isi_tup_t, isi_str_t, wipe_nil, wipe_cons, nobjs, okD_nobj d h.1, okDs_nobj ds h.2]
end
def signsL : List Nat := [32, 33, 34, 35, 36, 38, 39, 40, 41, 42, 43, 44, 45, 46, 47, 48, 49, 50, 51, 52, 53, 54, 55, 56, 57, 58, 59, 60, 61, 62, 63, 64, 65, 66, 67, 68, 69, 70, 71, 72, 73, 74, 75, 76, 77, 78, 79, 80, 81, 82, 83, 84, 85, 86, 87, 88, 89, 90, 91, 92, 93, 94, 95, 96, 97, 98, 99, 100, 101, 102, 103, 104, 105, 106, 107, 108, 109, 110, 111, 112, 113, 114, 115, 116, 117, 118, 119, 120, 121, 122, 123, 124, 125, 126]
theorem con_13 : CC 13 = some (.int 20) := rfl
theorem con_12 : CC 12 = some (.str signsL) := rfl
theorem mem_signs {c : Nat} (h : c ≠ 37) : decide (c ∈ signsL) = (decide (32 ≤ c) && decide (c ≤ 126)) := by
  by_cases h : c ∈ signsL
  · rw [decide_eq_true h]
    simp [ev, evs, evI, evAnd, evOr, ex, start, E.isNil, setTg, bind_ok, bind_exc, bind_bad, bind_ite, bind_bind, noexc_ok, lift_some, lift_none, lift_ite, fin_ret, fin_next, cmp_eq, cmp_ne, cmp_lt, cmp_le, cmp_gt, cmp_ge, cmp_in, cmp_notIn, cmp_leS, cmp_ltS, cmp_is, cmp_isNot, in_tup, in_lst, in_str, eqQ_int, eqQ_str, add_int, sub_int, add_lst, add_tup, add_str, idx_lst, idx_tup, idx_str, tru_bl, tru_int, tru_lst, tru_tup, tru_str, tru_non, len_lst, len_tup, len_str, bi_int, bi_all, bi_any, bi_tuple, seq_lst, seq_tup, seq_str, tst_nil, tst_c, map_some, map_ite, isi_tup_t, isi_str_t, wipe_nil, wipe_cons, signsL] at h
    simp [ev, evs, evI, evAnd, evOr, ex, start, E.isNil, setTg, bind_ok, bind_exc, bind_bad, bind_ite, bind_bind, noexc_ok, lift_some, lift_none, lift_ite, fin_ret, fin_next, cmp_eq, cmp_ne, cmp_lt, cmp_le, cmp_gt, cmp_ge, cmp_in, cmp_notIn, cmp_leS, cmp_ltS, cmp_is, cmp_isNot, in_tup, in_lst, in_str, eqQ_int, eqQ_str, add_int, sub_int, add_lst, add_tup, add_str, idx_lst, idx_tup, idx_str, tru_bl, tru_int, tru_lst, tru_tup, tru_str, tru_non, len_lst, len_tup, len_str, bi_int, bi_all, bi_any, bi_tuple, seq_lst, seq_tup, seq_str, tst_nil, tst_c, map_some, map_ite, isi_tup_t, isi_str_t, wipe_nil, wipe_cons]
    omega
  · rw [decide_eq_false h]
    simp [ev, evs, evI, evAnd, evOr, ex, start, E.isNil, setTg, bind_ok, bind_exc, bind_bad, bind_ite, bind_bind, noexc_ok, lift_some, lift_none, lift_ite, fin_ret, fin_next, cmp_eq, cmp_ne, cmp_lt, cmp_le, cmp_gt, cmp_ge, cmp_in, cmp_notIn, cmp_leS, cmp_ltS, cmp_is, cmp_isNot, in_tup, in_lst, in_str, eqQ_int, eqQ_str, add_int, sub_int, add_lst, add_tup, add_str, idx_lst, idx_tup, idx_str, tru_bl, tru_int, tru_lst, tru_tup, tru_str, tru_non, len_lst, len_tup, len_str, bi_int, bi_all, bi_any, bi_tuple, seq_lst, seq_tup, seq_str, tst_nil, tst_c, map_some, map_ite, isi_tup_t, isi_str_t, wipe_nil, wipe_cons, signsL] at h
    simp [ev, evs, evI, evAnd, evOr, ex, start, E.isNil, setTg, bind_ok, bind_exc, bind_bad, bind_ite, bind_bind, noexc_ok, lift_some, lift_none, lift_ite, fin_ret, fin_next, cmp_eq, cmp_ne, cmp_lt, cmp_le, cmp_gt, cmp_ge, cmp_in, cmp_notIn, cmp_leS, cmp_ltS, cmp_is, cmp_isNot, in_tup, in_lst, in_str, eqQ_int, eqQ_str, add_int, sub_int, add_lst, add_tup, add_str, idx_lst, idx_tup, idx_str, tru_bl, tru_int, tru_lst, tru_tup, tru_str, tru_non, len_lst, len_tup, len_str, bi_int, bi_all, bi_any, bi_tuple, seq_lst, seq_tup, seq_str, tst_nil, tst_c, map_some, map_ite, isi_tup_t, isi_str_t, wipe_nil, wipe_cons]
    omega
def isPlainD : D → Bool
  | .str cs => decide (cs.length ≤ 20) && cs.all fun c => decide (c ∈ signsL)
  | _ => false
theorem call_is_plain {k : Nat} {v : D} {M : Mem} (h : v.nobj = true) : callK GG CC 0 (k + 1) I_names_is_plain [v] M = .ok (D.bl (isPlainD v)) M := by
  rw [callK_at (fd := F_names_is_plain) rfl rfl]
  cases v with
  | str cs =>
    simp [ev, evs, evI, evAnd, evOr, ex, start, E.isNil, setTg, bind_ok, bind_exc, bind_bad, bind_ite, bind_bind, noexc_ok, lift_some, lift_none, lift_ite, fin_ret, fin_next, cmp_eq, cmp_ne, cmp_lt, cmp_le, cmp_gt, cmp_ge, cmp_in, cmp_notIn, cmp_leS, cmp_ltS, cmp_is, cmp_isNot, in_tup, in_lst, in_str, eqQ_int, eqQ_str, add_int, sub_int, add_lst, add_tup, add_str, idx_lst, idx_tup, idx_str, tru_bl, tru_int, tru_lst, tru_tup, tru_str, tru_non, len_lst, len_tup, len_str, bi_int, bi_all, bi_any, bi_tuple, seq_lst, seq_tup, seq_str, tst_nil, tst_c, map_some, map_ite, isi_tup_t, isi_str_t, wipe_nil, wipe_cons, F_names_is_plain, S_names_is_plain, con_13, con_12]
    rw [compL_pure (fun _ => true) (fun d => .bl (decide (codeOf d ∈ signsL))) _ (fun x hx => by
      obtain ⟨c, hc, rfl⟩ := List.mem_map.mp hx
      exact ⟨_, rfl, rfl, fun _ => rfl⟩), map_str (f := fun c => .bl (decide (c ∈ signsL))) fun _ => rfl]
    simp [ev, evs, evI, evAnd, evOr, ex, start, E.isNil, setTg, bind_ok, bind_exc, bind_bad, bind_ite, bind_bind, noexc_ok, lift_some, lift_none, lift_ite, fin_ret, fin_next, cmp_eq, cmp_ne, cmp_lt, cmp_le, cmp_gt, cmp_ge, cmp_in, cmp_notIn, cmp_leS, cmp_ltS, cmp_is, cmp_isNot, in_tup, in_lst, in_str, eqQ_int, eqQ_str, add_int, sub_int, add_lst, add_tup, add_str, idx_lst, idx_tup, idx_str, tru_bl, tru_int, tru_lst, tru_tup, tru_str, tru_non, len_lst, len_tup, len_str, bi_int, bi_all, bi_any, bi_tuple, seq_lst, seq_tup, seq_str, tst_nil, tst_c, map_some, map_ite, isi_tup_t, isi_str_t, wipe_nil, wipe_cons, boolsOf_map, isPlainD]
    by_cases h2 : (cs.length : Int) ≤ 20 <;> simp [ev, evs, evI, evAnd, evOr, ex, start, E.isNil, setTg, bind_ok, bind_exc, bind_bad, bind_ite, bind_bind, noexc_ok, lift_some, lift_none, lift_ite, fin_ret, fin_next, cmp_eq, cmp_ne, cmp_lt, cmp_le, cmp_gt, cmp_ge, cmp_in, cmp_notIn, cmp_leS, cmp_ltS, cmp_is, cmp_isNot, in_tup, in_lst, in_str, eqQ_int, eqQ_str, add_int, sub_int, add_lst, add_tup, add_str, idx_lst, idx_tup, idx_str, tru_bl, tru_int, tru_lst, tru_tup, tru_str, tru_non, len_lst, len_tup, len_str, bi_int, bi_all, bi_any, bi_tuple, seq_lst, seq_tup, seq_str, tst_nil, tst_c, map_some, map_ite, isi_tup_t, isi_str_t, wipe_nil, wipe_cons, h2] <;> omega
  | obj n => cases h
  | _ => rfl
theorem filter_nil {p : Nat → Bool} {q : D → Bool} : ∀ {cs : List Nat}, (∀ c ∈ cs, q (.str [c]) = !p c) → eqD (.lst (((cs.map fun c => D.str [c]).filter q).map id)) (.lst []) = cs.all p
  | [], _ => rfl
  | c :: cs, h => by
    have ih := filter_nil (p := p) (q := q) (cs := cs) fun c hc => h c (List.mem_cons_of_mem _ hc)
    rw [List.map_id] at ih ⊢
    rw [List.map_cons, List.filter_cons, h c List.mem_cons_self]
    cases hp : p c with
    | true =>
      simp only [Bool.not_true, Bool.false_eq_true, if_false, List.all_cons, hp, Bool.true_and]
      exact ih
    | false => simp [ev, evs, evI, evAnd, evOr, ex, start, E.isNil, setTg, bind_ok, bind_exc, bind_bad, bind_ite, bind_bind, noexc_ok, lift_some, lift_none, lift_ite, fin_ret, fin_next, cmp_eq, cmp_ne, cmp_lt, cmp_le, cmp_gt, cmp_ge, cmp_in, cmp_notIn, cmp_leS, cmp_ltS, cmp_is, cmp_isNot, in_tup, in_lst, in_str, eqQ_int, eqQ_str, add_int, sub_int, add_lst, add_tup, add_str, idx_lst, idx_tup, idx_str, tru_bl, tru_int, tru_lst, tru_tup, tru_str, tru_non, len_lst, len_tup, len_str, bi_int, bi_all, bi_any, bi_tuple, seq_lst, seq_tup, seq_str, tst_nil, tst_c, map_some, map_ite, isi_tup_t, isi_str_t, wipe_nil, wipe_cons, hp, eqD, eqDs]
theorem nobjs_map {cs : List Nat} {q : D → Bool} : nobjs (((cs.map fun c => D.str [c]).filter q).map id) = true := by
  rw [List.map_id]
  induction cs with
  | nil => rfl
  | cons c cs ih =>
    rw [List.map_cons, List.filter_cons]
    split
    · simpa [nobjs, D.nobj] using ih
    · exact ih
theorem eqQ_nil {xs : List D} (h : nobjs xs = true) : eqQ (.lst xs) (.lst []) = some (eqD (.lst xs) (.lst [])) := by
  refine eqQ_of ?_
  have e : (D.lst []).dep = 1 := rfl
  simp [ev, evs, evI, evAnd, evOr, ex, start, E.isNil, setTg, bind_ok, bind_exc, bind_bad, bind_ite, bind_bind, noexc_ok, lift_some, lift_none, lift_ite, fin_ret, fin_next, cmp_eq, cmp_ne, cmp_lt, cmp_le, cmp_gt, cmp_ge, cmp_in, cmp_notIn, cmp_leS, cmp_ltS, cmp_is, cmp_isNot, in_tup, in_lst, in_str, eqQ_int, eqQ_str, add_int, sub_int, add_lst, add_tup, add_str, idx_lst, idx_tup, idx_str, tru_bl, tru_int, tru_lst, tru_tup, tru_str, tru_non, len_lst, len_tup, len_str, bi_int, bi_all, bi_any, bi_tuple, seq_lst, seq_tup, seq_str, tst_nil, tst_c, map_some, map_ite, isi_tup_t, isi_str_t, wipe_nil, wipe_cons, eqOk, D.nobj, h, nobjs, e, maxDep]
theorem call_law_name {k : Nat} {v : D} {M : Mem} (h : v.nobj = true) : callK GG CC 0 (k + 1) I_l_law_name [v] M = .ok (D.bl (isNameD v)) M := by
  rw [callK_at (fd := F_l_law_name) rfl rfl]
  cases v with
  | str cs =>
    simp [ev, evs, evI, evAnd, evOr, ex, start, E.isNil, setTg, bind_ok, bind_exc, bind_bad, bind_ite, bind_bind, noexc_ok, lift_some, lift_none, lift_ite, fin_ret, fin_next, cmp_eq, cmp_ne, cmp_lt, cmp_le, cmp_gt, cmp_ge, cmp_in, cmp_notIn, cmp_leS, cmp_ltS, cmp_is, cmp_isNot, in_tup, in_lst, in_str, eqQ_int, eqQ_str, add_int, sub_int, add_lst, add_tup, add_str, idx_lst, idx_tup, idx_str, tru_bl, tru_int, tru_lst, tru_tup, tru_str, tru_non, len_lst, len_tup, len_str, bi_int, bi_all, bi_any, bi_tuple, seq_lst, seq_tup, seq_str, tst_nil, tst_c, map_some, map_ite, isi_tup_t, isi_str_t, wipe_nil, wipe_cons, F_l_law_name, S_l_law_name]
    rw [compL_pure (fun d => !decide (codeOf d ∈ lettersL)) id _ (fun x hx => by
      obtain ⟨c, hc, rfl⟩ := List.mem_map.mp hx
      exact ⟨_, rfl, rfl, fun _ => rfl⟩)]
    simp only [noexc_ok, bind_ok, eqQ_nil nobjs_map, lift_some, filter_nil (q := fun d => !decide (codeOf d ∈ lettersL)) (p := fun c => decide (c ∈ lettersL)) fun c _ => rfl]
    simp only [mem_letters, isNameD]
    by_cases h1 : 1 ≤ cs.length <;> by_cases h2 : cs.length ≤ 8
    · rw [if_pos (by omega), if_neg (by omega)]; simp [ev, evs, evI, evAnd, evOr, ex, start, E.isNil, setTg, bind_ok, bind_exc, bind_bad, bind_ite, bind_bind, noexc_ok, lift_some, lift_none, lift_ite, fin_ret, fin_next, cmp_eq, cmp_ne, cmp_lt, cmp_le, cmp_gt, cmp_ge, cmp_in, cmp_notIn, cmp_leS, cmp_ltS, cmp_is, cmp_isNot, in_tup, in_lst, in_str, eqQ_int, eqQ_str, add_int, sub_int, add_lst, add_tup, add_str, idx_lst, idx_tup, idx_str, tru_bl, tru_int, tru_lst, tru_tup, tru_str, tru_non, len_lst, len_tup, len_str, bi_int, bi_all, bi_any, bi_tuple, seq_lst, seq_tup, seq_str, tst_nil, tst_c, map_some, map_ite, isi_tup_t, isi_str_t, wipe_nil, wipe_cons, h1, h2]
    · rw [if_pos (by omega), if_pos (by omega)]; simp [ev, evs, evI, evAnd, evOr, ex, start, E.isNil, setTg, bind_ok, bind_exc, bind_bad, bind_ite, bind_bind, noexc_ok, lift_some, lift_none, lift_ite, fin_ret, fin_next, cmp_eq, cmp_ne, cmp_lt, cmp_le, cmp_gt, cmp_ge, cmp_in, cmp_notIn, cmp_leS, cmp_ltS, cmp_is, cmp_isNot, in_tup, in_lst, in_str, eqQ_int, eqQ_str, add_int, sub_int, add_lst, add_tup, add_str, idx_lst, idx_tup, idx_str, tru_bl, tru_int, tru_lst, tru_tup, tru_str, tru_non, len_lst, len_tup, len_str, bi_int, bi_all, bi_any, bi_tuple, seq_lst, seq_tup, seq_str, tst_nil, tst_c, map_some, map_ite, isi_tup_t, isi_str_t, wipe_nil, wipe_cons, h1, h2]
    · rw [if_neg (by omega)]; simp [ev, evs, evI, evAnd, evOr, ex, start, E.isNil, setTg, bind_ok, bind_exc, bind_bad, bind_ite, bind_bind, noexc_ok, lift_some, lift_none, lift_ite, fin_ret, fin_next, cmp_eq, cmp_ne, cmp_lt, cmp_le, cmp_gt, cmp_ge, cmp_in, cmp_notIn, cmp_leS, cmp_ltS, cmp_is, cmp_isNot, in_tup, in_lst, in_str, eqQ_int, eqQ_str, add_int, sub_int, add_lst, add_tup, add_str, idx_lst, idx_tup, idx_str, tru_bl, tru_int, tru_lst, tru_tup, tru_str, tru_non, len_lst, len_tup, len_str, bi_int, bi_all, bi_any, bi_tuple, seq_lst, seq_tup, seq_str, tst_nil, tst_c, map_some, map_ite, isi_tup_t, isi_str_t, wipe_nil, wipe_cons, h1, h2]
    · rw [if_neg (by omega)]; simp [ev, evs, evI, evAnd, evOr, ex, start, E.isNil, setTg, bind_ok, bind_exc, bind_bad, bind_ite, bind_bind, noexc_ok, lift_some, lift_none, lift_ite, fin_ret, fin_next, cmp_eq, cmp_ne, cmp_lt, cmp_le, cmp_gt, cmp_ge, cmp_in, cmp_notIn, cmp_leS, cmp_ltS, cmp_is, cmp_isNot, in_tup, in_lst, in_str, eqQ_int, eqQ_str, add_int, sub_int, add_lst, add_tup, add_str, idx_lst, idx_tup, idx_str, tru_bl, tru_int, tru_lst, tru_tup, tru_str, tru_non, len_lst, len_tup, len_str, bi_int, bi_all, bi_any, bi_tuple, seq_lst, seq_tup, seq_str, tst_nil, tst_c, map_some, map_ite, isi_tup_t, isi_str_t, wipe_nil, wipe_cons, h1, h2]
  | obj n => cases h
  | _ => rfl
theorem le_code (a b : Nat) : ltC [a] [b] = decide (a < b) := by
  unfold ltC
  simp [ev, evs, evI, evAnd, evOr, ex, start, E.isNil, setTg, bind_ok, bind_exc, bind_bad, bind_ite, bind_bind, noexc_ok, lift_some, lift_none, lift_ite, fin_ret, fin_next, cmp_eq, cmp_ne, cmp_lt, cmp_le, cmp_gt, cmp_ge, cmp_in, cmp_notIn, cmp_leS, cmp_ltS, cmp_is, cmp_isNot, in_tup, in_lst, in_str, eqQ_int, eqQ_str, add_int, sub_int, add_lst, add_tup, add_str, idx_lst, idx_tup, idx_str, tru_bl, tru_int, tru_lst, tru_tup, tru_str, tru_non, len_lst, len_tup, len_str, bi_int, bi_all, bi_any, bi_tuple, seq_lst, seq_tup, seq_str, tst_nil, tst_c, map_some, map_ite, isi_tup_t, isi_str_t, wipe_nil, wipe_cons, List.cons_lt_cons_iff]
theorem call_law_text {k : Nat} {v : D} {M : Mem} (h : okD v = true) : callK GG CC 0 (k + 1) I_l_law_text [v] M = .ok (D.bl (isPlainD v)) M := by
  rw [callK_at (fd := F_l_law_text) rfl rfl]
  cases v with
  | str cs =>
    simp [ev, evs, evI, evAnd, evOr, ex, start, E.isNil, setTg, bind_ok, bind_exc, bind_bad, bind_ite, bind_bind, noexc_ok, lift_some, lift_none, lift_ite, fin_ret, fin_next, cmp_eq, cmp_ne, cmp_lt, cmp_le, cmp_gt, cmp_ge, cmp_in, cmp_notIn, cmp_leS, cmp_ltS, cmp_is, cmp_isNot, in_tup, in_lst, in_str, eqQ_int, eqQ_str, add_int, sub_int, add_lst, add_tup, add_str, idx_lst, idx_tup, idx_str, tru_bl, tru_int, tru_lst, tru_tup, tru_str, tru_non, len_lst, len_tup, len_str, bi_int, bi_all, bi_any, bi_tuple, seq_lst, seq_tup, seq_str, tst_nil, tst_c, map_some, map_ite, isi_tup_t, isi_str_t, wipe_nil, wipe_cons, F_l_law_text, S_l_law_text]
    rw [compL_pure (fun d => !(decide (32 ≤ codeOf d) && decide (codeOf d ≤ 126))) id _ (fun x hx => by
      obtain ⟨c, hc, rfl⟩ := List.mem_map.mp hx
      refine ⟨_, rfl, ?_, fun _ => rfl⟩
      simp [ev, evs, evI, evAnd, evOr, ex, start, E.isNil, setTg, bind_ok, bind_exc, bind_bad, bind_ite, bind_bind, noexc_ok, lift_some, lift_none, lift_ite, fin_ret, fin_next, cmp_eq, cmp_ne, cmp_lt, cmp_le, cmp_gt, cmp_ge, cmp_in, cmp_notIn, cmp_leS, cmp_ltS, cmp_is, cmp_isNot, in_tup, in_lst, in_str, eqQ_int, eqQ_str, add_int, sub_int, add_lst, add_tup, add_str, idx_lst, idx_tup, idx_str, tru_bl, tru_int, tru_lst, tru_tup, tru_str, tru_non, len_lst, len_tup, len_str, bi_int, bi_all, bi_any, bi_tuple, seq_lst, seq_tup, seq_str, tst_nil, tst_c, map_some, map_ite, isi_tup_t, isi_str_t, wipe_nil, wipe_cons, le_code, codeOf]
      by_cases h1 : c < 32
      · have h3 : ¬ 32 ≤ c := by omega
        simp [ev, evs, evI, evAnd, evOr, ex, start, E.isNil, setTg, bind_ok, bind_exc, bind_bad, bind_ite, bind_bind, noexc_ok, lift_some, lift_none, lift_ite, fin_ret, fin_next, cmp_eq, cmp_ne, cmp_lt, cmp_le, cmp_gt, cmp_ge, cmp_in, cmp_notIn, cmp_leS, cmp_ltS, cmp_is, cmp_isNot, in_tup, in_lst, in_str, eqQ_int, eqQ_str, add_int, sub_int, add_lst, add_tup, add_str, idx_lst, idx_tup, idx_str, tru_bl, tru_int, tru_lst, tru_tup, tru_str, tru_non, len_lst, len_tup, len_str, bi_int, bi_all, bi_any, bi_tuple, seq_lst, seq_tup, seq_str, tst_nil, tst_c, map_some, map_ite, isi_tup_t, isi_str_t, wipe_nil, wipe_cons, h1, h3]
      · have h3 : 32 ≤ c := by omega
        by_cases h2 : 126 < c
        · have h4 : ¬ c ≤ 126 := by omega
          simp [ev, evs, evI, evAnd, evOr, ex, start, E.isNil, setTg, bind_ok, bind_exc, bind_bad, bind_ite, bind_bind, noexc_ok, lift_some, lift_none, lift_ite, fin_ret, fin_next, cmp_eq, cmp_ne, cmp_lt, cmp_le, cmp_gt, cmp_ge, cmp_in, cmp_notIn, cmp_leS, cmp_ltS, cmp_is, cmp_isNot, in_tup, in_lst, in_str, eqQ_int, eqQ_str, add_int, sub_int, add_lst, add_tup, add_str, idx_lst, idx_tup, idx_str, tru_bl, tru_int, tru_lst, tru_tup, tru_str, tru_non, len_lst, len_tup, len_str, bi_int, bi_all, bi_any, bi_tuple, seq_lst, seq_tup, seq_str, tst_nil, tst_c, map_some, map_ite, isi_tup_t, isi_str_t, wipe_nil, wipe_cons, h1, h2, h3, h4]
        · have h4 : c ≤ 126 := by omega
          simp [ev, evs, evI, evAnd, evOr, ex, start, E.isNil, setTg, bind_ok, bind_exc, bind_bad, bind_ite, bind_bind, noexc_ok, lift_some, lift_none, lift_ite, fin_ret, fin_next, cmp_eq, cmp_ne, cmp_lt, cmp_le, cmp_gt, cmp_ge, cmp_in, cmp_notIn, cmp_leS, cmp_ltS, cmp_is, cmp_isNot, in_tup, in_lst, in_str, eqQ_int, eqQ_str, add_int, sub_int, add_lst, add_tup, add_str, idx_lst, idx_tup, idx_str, tru_bl, tru_int, tru_lst, tru_tup, tru_str, tru_non, len_lst, len_tup, len_str, bi_int, bi_all, bi_any, bi_tuple, seq_lst, seq_tup, seq_str, tst_nil, tst_c, map_some, map_ite, isi_tup_t, isi_str_t, wipe_nil, wipe_cons, h1, h2, h3, h4])]
    simp only [noexc_ok, bind_ok, eqQ_nil nobjs_map, lift_some, filter_nil (q := fun d => !(decide (32 ≤ codeOf d) && decide (codeOf d ≤ 126))) (p := fun c => decide (c ∈ signsL)) fun c hc => by
      have h : cs.all (· != 37) = true := h
      have := List.all_eq_true.mp h c hc
      rw [mem_signs (by simpa using this)]
      rfl]
    simp [ev, evs, evI, evAnd, evOr, ex, start, E.isNil, setTg, bind_ok, bind_exc, bind_bad, bind_ite, bind_bind, noexc_ok, lift_some, lift_none, lift_ite, fin_ret, fin_next, cmp_eq, cmp_ne, cmp_lt, cmp_le, cmp_gt, cmp_ge, cmp_in, cmp_notIn, cmp_leS, cmp_ltS, cmp_is, cmp_isNot, in_tup, in_lst, in_str, eqQ_int, eqQ_str, add_int, sub_int, add_lst, add_tup, add_str, idx_lst, idx_tup, idx_str, tru_bl, tru_int, tru_lst, tru_tup, tru_str, tru_non, len_lst, len_tup, len_str, bi_int, bi_all, bi_any, bi_tuple, seq_lst, seq_tup, seq_str, tst_nil, tst_c, map_some, map_ite, isi_tup_t, isi_str_t, wipe_nil, wipe_cons, isPlainD]
    by_cases h2 : (cs.length : Int) ≤ 20
    · have h3 : ¬ (20 < (cs.length : Int)) := by omega
      have h4 : cs.length ≤ 20 := by omega
      simp [ev, evs, evI, evAnd, evOr, ex, start, E.isNil, setTg, bind_ok, bind_exc, bind_bad, bind_ite, bind_bind, noexc_ok, lift_some, lift_none, lift_ite, fin_ret, fin_next, cmp_eq, cmp_ne, cmp_lt, cmp_le, cmp_gt, cmp_ge, cmp_in, cmp_notIn, cmp_leS, cmp_ltS, cmp_is, cmp_isNot, in_tup, in_lst, in_str, eqQ_int, eqQ_str, add_int, sub_int, add_lst, add_tup, add_str, idx_lst, idx_tup, idx_str, tru_bl, tru_int, tru_lst, tru_tup, tru_str, tru_non, len_lst, len_tup, len_str, bi_int, bi_all, bi_any, bi_tuple, seq_lst, seq_tup, seq_str, tst_nil, tst_c, map_some, map_ite, isi_tup_t, isi_str_t, wipe_nil, wipe_cons, h3, h4]
    · have h3 : (20 < (cs.length : Int)) := by omega
      have h4 : ¬ cs.length ≤ 20 := by omega
      simp [ev, evs, evI, evAnd, evOr, ex, start, E.isNil, setTg, bind_ok, bind_exc, bind_bad, bind_ite, bind_bind, noexc_ok, lift_some, lift_none, lift_ite, fin_ret, fin_next, cmp_eq, cmp_ne, cmp_lt, cmp_le, cmp_gt, cmp_ge, cmp_in, cmp_notIn, cmp_leS, cmp_ltS, cmp_is, cmp_isNot, in_tup, in_lst, in_str, eqQ_int, eqQ_str, add_int, sub_int, add_lst, add_tup, add_str, idx_lst, idx_tup, idx_str, tru_bl, tru_int, tru_lst, tru_tup, tru_str, tru_non, len_lst, len_tup, len_str, bi_int, bi_all, bi_any, bi_tuple, seq_lst, seq_tup, seq_str, tst_nil, tst_c, map_some, map_ite, isi_tup_t, isi_str_t, wipe_nil, wipe_cons, h3, h4]
  | obj n => cases h
  | _ => rfl
end Ev

set_option maxRecDepth 100000
set_option maxHeartbeats 8000000
namespace Ev
def kindIs (k : D) (s : List Nat) : Bool := match k with | .str x => x == s | _ => false
theorem eqD_str (k : D) (s : List Nat) : eqD k (.str s) = kindIs k s := by cases k <;> rfl
theorem eqD_str' (k : D) (s : List Nat) : eqD (.str s) k = kindIs k s := by
  cases k <;> first | rfl | skip
  rename_i x
  show (s == x) = (x == s)
  rw [Bool.eq_iff_iff, beq_iff_eq, beq_iff_eq]
  exact eq_comm
theorem eqQ_kind {k : D} (s : List Nat) (h : k.nobj = true) : eqQ k (.str s) = some (kindIs k s) := by
  have e : (D.str s).dep = 0 := rfl
  rw [eqQ_of (by simp [ev, evs, evI, evAnd, evOr, ex, start, E.isNil, setTg, bind_ok, bind_exc, bind_bad, bind_ite, bind_bind, noexc_ok, lift_some, lift_none, lift_ite, fin_ret, fin_next, cmp_eq, cmp_ne, cmp_lt, cmp_le, cmp_gt, cmp_ge, cmp_in, cmp_notIn, cmp_leS, cmp_ltS, cmp_is, cmp_isNot, in_str, eqQ_int, eqQ_str, add_int, sub_int, add_lst, add_tup, add_str, idx_lst, idx_tup, idx_str, tru_bl, tru_int, tru_lst, tru_tup, tru_str, tru_non, len_lst, len_tup, len_str, bi_int, bi_all, bi_any, bi_tuple, seq_lst, seq_tup, seq_str, tst_nil, tst_c, map_some, map_ite, isi_tup_t, isi_str_t, wipe_nil, wipe_cons, eqOk, h, D.nobj, e, maxDep]), eqD_str]
def kinds (k : D) (ss : List (List Nat)) : Bool := ss.any (kindIs k)
theorem inDs_kinds (k : D) : ∀ ss : List (List Nat), inDs k (ss.map .str) = kinds k ss
  | [] => rfl
  | s :: ss => by
    have ih := inDs_kinds k ss
    unfold inDs kinds at ih ⊢
    rw [List.map_cons, List.any_cons, List.any_cons, ih, eqD_str']
theorem strs_ok : ∀ ss : List (List Nat), nobjs (ss.map .str) = true ∧ deps (ss.map .str) = 0
  | [] => ⟨rfl, rfl⟩
  | s :: ss => by
    obtain ⟨h1, h2⟩ := strs_ok ss
    exact ⟨by simp [ev, evs, evI, evAnd, evOr, ex, start, E.isNil, setTg, bind_ok, bind_exc, bind_bad, bind_ite, bind_bind, noexc_ok, lift_some, lift_none, lift_ite, fin_ret, fin_next, cmp_eq, cmp_ne, cmp_lt, cmp_le, cmp_gt, cmp_ge, cmp_in, cmp_notIn, cmp_leS, cmp_ltS, cmp_is, cmp_isNot, in_str, eqQ_int, eqQ_str, add_int, sub_int, add_lst, add_tup, add_str, idx_lst, idx_tup, idx_str, tru_bl, tru_int, tru_lst, tru_tup, tru_str, tru_non, len_lst, len_tup, len_str, bi_int, bi_all, bi_any, bi_tuple, seq_lst, seq_tup, seq_str, tst_nil, tst_c, map_some, map_ite, isi_tup_t, isi_str_t, wipe_nil, wipe_cons, nobjs, D.nobj, h1], by simp [ev, evs, evI, evAnd, evOr, ex, start, E.isNil, setTg, bind_ok, bind_exc, bind_bad, bind_ite, bind_bind, noexc_ok, lift_some, lift_none, lift_ite, fin_ret, fin_next, cmp_eq, cmp_ne, cmp_lt, cmp_le, cmp_gt, cmp_ge, cmp_in, cmp_notIn, cmp_leS, cmp_ltS, cmp_is, cmp_isNot, in_str, eqQ_int, eqQ_str, add_int, sub_int, add_lst, add_tup, add_str, idx_lst, idx_tup, idx_str, tru_bl, tru_int, tru_lst, tru_tup, tru_str, tru_non, len_lst, len_tup, len_str, bi_int, bi_all, bi_any, bi_tuple, seq_lst, seq_tup, seq_str, tst_nil, tst_c, map_some, map_ite, isi_tup_t, isi_str_t, wipe_nil, wipe_cons, deps, D.dep, h2]⟩
theorem inQ_kinds {k : D} {M : Mem} (ss : List (List Nat)) (h : k.nobj = true) : inQ k M (.tup (ss.map .str)) = some (kinds k ss) := by
  obtain ⟨h1, h2⟩ := strs_ok ss
  rw [in_tup, inDs_kinds, if_pos]
  have e : (D.tup (ss.map .str)).dep = 1 := by show deps _ + 1 = 1; rw [h2]
  simp [ev, evs, evI, evAnd, evOr, ex, start, E.isNil, setTg, bind_ok, bind_exc, bind_bad, bind_ite, bind_bind, noexc_ok, lift_some, lift_none, lift_ite, fin_ret, fin_next, cmp_eq, cmp_ne, cmp_lt, cmp_le, cmp_gt, cmp_ge, cmp_in, cmp_notIn, cmp_leS, cmp_ltS, cmp_is, cmp_isNot, in_str, eqQ_int, eqQ_str, add_int, sub_int, add_lst, add_tup, add_str, idx_lst, idx_tup, idx_str, tru_bl, tru_int, tru_lst, tru_tup, tru_str, tru_non, len_lst, len_tup, len_str, bi_int, bi_all, bi_any, bi_tuple, seq_lst, seq_tup, seq_str, tst_nil, tst_c, map_some, map_ite, isi_tup_t, isi_str_t, wipe_nil, wipe_cons, eqOk, h, D.nobj, h1, e, maxDep]
abbrev kPlain : List (List Nat) := [[97, 110, 121], [102, 105, 114, 115, 116], [108, 97, 115, 116], [101, 109, 112, 116, 121]]
abbrev kText : List Nat := [116, 101, 120, 116]
abbrev kValue : List Nat := [118, 97, 108, 117, 101]
abbrev kNM : List (List Nat) := [[110, 97, 109, 101], [109, 97, 114, 107]]
abbrev kWords : List (List Nat) := [[110, 97, 109, 101], [109, 97, 114, 107], kText]
abbrev kParted : List (List Nat) := [[98, 111, 116, 104], [111, 110, 101]]
abbrev kInner : List (List Nat) := [[110, 111, 116], [117, 110, 100, 101, 114], [105, 110], [110, 101, 120, 116], [98, 101, 104, 105, 110, 100], [111, 118, 101, 114], [104, 97, 115]]
theorem con_3 : CC 3 = some (.tup (kPlain.map .str)) := rfl
theorem con_4 : CC 4 = some (.tup (kWords.map .str)) := rfl
theorem con_6 : CC 6 = some (.tup (kParted.map .str)) := rfl
theorem con_8 : CC 8 = some (.tup (kInner.map .str)) := rfl
theorem con_11 : CC 11 = some (.int 4) := rfl
theorem inQ_A {x : D} {M : Mem} (h : x.nobj = true) : inQ x M (D.tup [D.str [97, 110, 121], D.str [102, 105, 114, 115, 116], D.str [108, 97, 115, 116], D.str [101, 109, 112, 116, 121]]) = some (kinds x kPlain) := inQ_kinds kPlain h
theorem inQ_N {x : D} {M : Mem} (h : x.nobj = true) : inQ x M (D.tup [D.str [110, 97, 109, 101], D.str [109, 97, 114, 107]]) = some (kinds x kNM) := inQ_kinds kNM h
theorem inQ_P {x : D} {M : Mem} (h : x.nobj = true) : inQ x M (D.tup [D.str [98, 111, 116, 104], D.str [111, 110, 101]]) = some (kinds x kParted) := inQ_kinds kParted h
theorem inQ_I {x : D} {M : Mem} (h : x.nobj = true) : inQ x M (D.tup [D.str [110, 111, 116], D.str [117, 110, 100, 101, 114], D.str [105, 110], D.str [110, 101, 120, 116], D.str [98, 101, 104, 105, 110, 100], D.str [111, 118, 101, 114], D.str [104, 97, 115]]) = some (kinds x kInner) := inQ_kinds kInner h
/-- a plain reader -/
def takes : Nat → D → Bool
  | d + 1, .tup (x :: r) =>
    if kinds x kPlain then r.isEmpty
    else if kinds x kNM then (match r with | [a] => isNameD a | _ => false)
    else if kindIs x kText then (match r with | [a] => isPlainD a | _ => false)
    else if kindIs x kValue then (match r with | [a, b] => isNameD a && isPlainD b | _ => false)
    else if kinds x kParted then (match r with | [.tup ps] => decide (2 ≤ ps.length) && decide (ps.length ≤ 4) && ps.all (takes d) | _ => false)
    else if kinds x kInner then (match r with | [a] => takes d a | _ => false)
    else false
  | _, _ => false
theorem big_ge (n : Nat) (h : n ≤ 1000) : n ≤ big := Nat.le_trans h (by decide)
theorem getIx_1 {α : Type} {x y : α} {xs : List α} : getIx (x :: y :: xs) 1 = some y := by
  refine (getIx_nat (i := 1) (n := 1) rfl (by simp [ev, evs, evI, evAnd, evOr, ex, start, E.isNil, setTg, bind_ok, bind_exc, bind_bad, bind_ite, bind_bind, noexc_ok, lift_some, lift_none, lift_ite, fin_ret, fin_next, cmp_eq, cmp_ne, cmp_lt, cmp_le, cmp_gt, cmp_ge, cmp_in, cmp_notIn, cmp_leS, cmp_ltS, cmp_is, cmp_isNot, in_str, eqQ_int, eqQ_str, add_int, sub_int, add_lst, add_tup, add_str, idx_lst, idx_tup, idx_str, tru_bl, tru_int, tru_lst, tru_tup, tru_str, tru_non, len_lst, len_tup, len_str, bi_int, bi_all, bi_any, bi_tuple, seq_lst, seq_tup, seq_str, tst_nil, tst_c, map_some, map_ite, isi_tup_t, isi_str_t, wipe_nil, wipe_cons])).trans ?_
  rfl
theorem getIx_2 {α : Type} {x y z : α} {xs : List α} : getIx (x :: y :: z :: xs) 2 = some z := by
  refine (getIx_nat (i := 2) (n := 2) rfl (by simp [ev, evs, evI, evAnd, evOr, ex, start, E.isNil, setTg, bind_ok, bind_exc, bind_bad, bind_ite, bind_bind, noexc_ok, lift_some, lift_none, lift_ite, fin_ret, fin_next, cmp_eq, cmp_ne, cmp_lt, cmp_le, cmp_gt, cmp_ge, cmp_in, cmp_notIn, cmp_leS, cmp_ltS, cmp_is, cmp_isNot, in_str, eqQ_int, eqQ_str, add_int, sub_int, add_lst, add_tup, add_str, idx_lst, idx_tup, idx_str, tru_bl, tru_int, tru_lst, tru_tup, tru_str, tru_non, len_lst, len_tup, len_str, bi_int, bi_all, bi_any, bi_tuple, seq_lst, seq_tup, seq_str, tst_nil, tst_c, map_some, map_ite, isi_tup_t, isi_str_t, wipe_nil, wipe_cons])).trans ?_
  rfl
theorem filt_all {p : D → Bool} : ∀ {xs : List D}, eqD (.lst ((xs.filter fun x => !p x).map id)) (.lst []) = xs.all p
  | [] => rfl
  | x :: xs => by
    have ih := filt_all (p := p) (xs := xs)
    rw [List.map_id] at ih ⊢
    rw [List.filter_cons]
    cases hp : p x with
    | true => simpa [hp] using ih
    | false => simp [ev, evs, evI, evAnd, evOr, ex, start, E.isNil, setTg, bind_ok, bind_exc, bind_bad, bind_ite, bind_bind, noexc_ok, lift_some, lift_none, lift_ite, fin_ret, fin_next, cmp_eq, cmp_ne, cmp_lt, cmp_le, cmp_gt, cmp_ge, cmp_in, cmp_notIn, cmp_leS, cmp_ltS, cmp_is, cmp_isNot, in_str, eqQ_int, eqQ_str, add_int, sub_int, add_lst, add_tup, add_str, idx_lst, idx_tup, idx_str, tru_bl, tru_int, tru_lst, tru_tup, tru_str, tru_non, len_lst, len_tup, len_str, bi_int, bi_all, bi_any, bi_tuple, seq_lst, seq_tup, seq_str, tst_nil, tst_c, map_some, map_ite, isi_tup_t, isi_str_t, wipe_nil, wipe_cons, hp, eqD, eqDs]
theorem nobjs_filt {p : D → Bool} : ∀ {xs : List D}, nobjs xs = true → nobjs ((xs.filter p).map id) = true
  | [], _ => rfl
  | x :: xs, h => by
    simp only [nobjs, Bool.and_eq_true] at h
    have ih := nobjs_filt (p := p) h.2
    rw [List.map_id] at ih ⊢
    rw [List.filter_cons]
    split
    · simp [ev, evs, evI, evAnd, evOr, ex, start, E.isNil, setTg, bind_ok, bind_exc, bind_bad, bind_ite, bind_bind, noexc_ok, lift_some, lift_none, lift_ite, fin_ret, fin_next, cmp_eq, cmp_ne, cmp_lt, cmp_le, cmp_gt, cmp_ge, cmp_in, cmp_notIn, cmp_leS, cmp_ltS, cmp_is, cmp_isNot, in_str, eqQ_int, eqQ_str, add_int, sub_int, add_lst, add_tup, add_str, idx_lst, idx_tup, idx_str, tru_bl, tru_int, tru_lst, tru_tup, tru_str, tru_non, len_lst, len_tup, len_str, bi_int, bi_all, bi_any, bi_tuple, seq_lst, seq_tup, seq_str, tst_nil, tst_c, map_some, map_ite, isi_tup_t, isi_str_t, wipe_nil, wipe_cons, nobjs, h.1, ih]
    · exact ih
theorem okDs_mem : ∀ {xs : List D}, okDs xs = true → ∀ x ∈ xs, okD x = true
  | x :: xs, h, y, hy => by
    simp only [okDs, Bool.and_eq_true] at h
    rcases List.mem_cons.mp hy with rfl | hy
    · exact h.1
    · exact okDs_mem h.2 y hy
theorem int_ne (n : Nat) (i : Int) (h : i ≤ 3) : ((n : Int) + 1 + 1 + 1 + 1 = i) = False := by
  apply eq_false
  omega
theorem int_beq (n : Nat) (i : Int) (h : i ≤ 3) : ((n : Int) + 1 + 1 + 1 + 1 == i) = false := by
  simp [ev, evs, evI, evAnd, evOr, ex, start, E.isNil, setTg, bind_ok, bind_exc, bind_bad, bind_ite, bind_bind, noexc_ok, lift_some, lift_none, lift_ite, fin_ret, fin_next, cmp_eq, cmp_ne, cmp_lt, cmp_le, cmp_gt, cmp_ge, cmp_in, cmp_notIn, cmp_leS, cmp_ltS, cmp_is, cmp_isNot, in_str, eqQ_int, eqQ_str, add_int, sub_int, add_lst, add_tup, add_str, idx_lst, idx_tup, idx_str, tru_bl, tru_int, tru_lst, tru_tup, tru_str, tru_non, len_lst, len_tup, len_str, bi_int, bi_all, bi_any, bi_tuple, seq_lst, seq_tup, seq_str, tst_nil, tst_c, map_some, map_ite, isi_tup_t, isi_str_t, wipe_nil, wipe_cons]
  omega
theorem takes_step (d k : Nat) (v : D) (M : Mem) (hv : okD v = true) (IH : ∀ (d' : Nat) (y : D), d = d' + 1 → okD y = true → callK GG CC 0 (k + d' + 1 + 1) I_l_law_takes [y, .int d'] M = .ok (D.bl (takes d' y)) M) :
    callK GG CC 0 (k + d + 1 + 1) I_l_law_takes [v, .int d] M = .ok (D.bl (takes d v)) M := by
    rw [callK_at (fd := F_l_law_takes) rfl rfl]
    cases v with
    | obj n => cases hv
    | tup xs =>
      cases xs with
      | nil =>
        simp [ev, evs, evI, evAnd, evOr, ex, start, E.isNil, setTg, bind_ok, bind_exc, bind_bad, bind_ite, bind_bind, noexc_ok, lift_some, lift_none, lift_ite, fin_ret, fin_next, cmp_eq, cmp_ne, cmp_lt, cmp_le, cmp_gt, cmp_ge, cmp_in, cmp_notIn, cmp_leS, cmp_ltS, cmp_is, cmp_isNot, in_str, eqQ_int, eqQ_str, add_int, sub_int, add_lst, add_tup, add_str, idx_lst, idx_tup, idx_str, tru_bl, tru_int, tru_lst, tru_tup, tru_str, tru_non, len_lst, len_tup, len_str, bi_int, bi_all, bi_any, bi_tuple, seq_lst, seq_tup, seq_str, tst_nil, tst_c, map_some, map_ite, isi_tup_t, isi_str_t, wipe_nil, wipe_cons, F_l_law_takes, S_l_law_takes]
        cases d <;> rfl
      | cons x r =>
        have hv : (okD x && okDs r) = true := hv
        simp only [Bool.and_eq_true] at hv
        obtain ⟨hx, hr⟩ := hv
        have nx := okD_nobj x hx
        cases d with
        | zero =>
          simp [ev, evs, evI, evAnd, evOr, ex, start, E.isNil, setTg, bind_ok, bind_exc, bind_bad, bind_ite, bind_bind, noexc_ok, lift_some, lift_none, lift_ite, fin_ret, fin_next, cmp_eq, cmp_ne, cmp_lt, cmp_le, cmp_gt, cmp_ge, cmp_in, cmp_notIn, cmp_leS, cmp_ltS, cmp_is, cmp_isNot, in_str, eqQ_int, eqQ_str, add_int, sub_int, add_lst, add_tup, add_str, idx_lst, idx_tup, idx_str, tru_bl, tru_int, tru_lst, tru_tup, tru_str, tru_non, len_lst, len_tup, len_str, bi_int, bi_all, bi_any, bi_tuple, seq_lst, seq_tup, seq_str, tst_nil, tst_c, map_some, map_ite, isi_tup_t, isi_str_t, wipe_nil, wipe_cons, F_l_law_takes, S_l_law_takes, takes]
          exact fun h1 h2 => absurd h1 h2
        | succ d =>
          have e : ((d : Int) + 1 == 0) = false := by simp [ev, evs, evI, evAnd, evOr, ex, start, E.isNil, setTg, bind_ok, bind_exc, bind_bad, bind_ite, bind_bind, noexc_ok, lift_some, lift_none, lift_ite, fin_ret, fin_next, cmp_eq, cmp_ne, cmp_lt, cmp_le, cmp_gt, cmp_ge, cmp_in, cmp_notIn, cmp_leS, cmp_ltS, cmp_is, cmp_isNot, in_str, eqQ_int, eqQ_str, add_int, sub_int, add_lst, add_tup, add_str, idx_lst, idx_tup, idx_str, tru_bl, tru_int, tru_lst, tru_tup, tru_str, tru_non, len_lst, len_tup, len_str, bi_int, bi_all, bi_any, bi_tuple, seq_lst, seq_tup, seq_str, tst_nil, tst_c, map_some, map_ite, isi_tup_t, isi_str_t, wipe_nil, wipe_cons]; omega
          rw [show k + (d + 1) + 1 = k + d + 1 + 1 by omega]
          rcases r with _ | ⟨a, _ | ⟨b, _ | ⟨c, r⟩⟩⟩
          · simp [ev, evs, evI, evAnd, evOr, ex, start, E.isNil, setTg, bind_ok, bind_exc, bind_bad, bind_ite, bind_bind, noexc_ok, lift_some, lift_none, lift_ite, fin_ret, fin_next, cmp_eq, cmp_ne, cmp_lt, cmp_le, cmp_gt, cmp_ge, cmp_in, cmp_notIn, cmp_leS, cmp_ltS, cmp_is, cmp_isNot, in_str, eqQ_int, eqQ_str, add_int, sub_int, add_lst, add_tup, add_str, idx_lst, idx_tup, idx_str, tru_bl, tru_int, tru_lst, tru_tup, tru_str, tru_non, len_lst, len_tup, len_str, bi_int, bi_all, bi_any, bi_tuple, seq_lst, seq_tup, seq_str, tst_nil, tst_c, map_some, map_ite, isi_tup_t, isi_str_t, wipe_nil, wipe_cons, F_l_law_takes, S_l_law_takes, getIx_0, inQ_A nx, inQ_N nx, inQ_P nx, inQ_I nx, eqQ_kind _ nx, e, big_ge, takes]
            cases kinds x kPlain <;> rfl
          · have ha : okD a = true := okDs_mem hr a List.mem_cons_self
            have na := okD_nobj a ha
            have ih := IH d a rfl ha
            have e1 := call_law_name (k := k + d + 1) (M := M) na
            have e2 := call_law_text (k := k + d + 1) (M := M) ha
            simp [ev, evs, evI, evAnd, evOr, ex, start, E.isNil, setTg, bind_ok, bind_exc, bind_bad, bind_ite, bind_bind, noexc_ok, lift_some, lift_none, lift_ite, fin_ret, fin_next, cmp_eq, cmp_ne, cmp_lt, cmp_le, cmp_gt, cmp_ge, cmp_in, cmp_notIn, cmp_leS, cmp_ltS, cmp_is, cmp_isNot, in_str, eqQ_int, eqQ_str, add_int, sub_int, add_lst, add_tup, add_str, idx_lst, idx_tup, idx_str, tru_bl, tru_int, tru_lst, tru_tup, tru_str, tru_non, len_lst, len_tup, len_str, bi_int, bi_all, bi_any, bi_tuple, seq_lst, seq_tup, seq_str, tst_nil, tst_c, map_some, map_ite, isi_tup_t, isi_str_t, wipe_nil, wipe_cons, F_l_law_takes, S_l_law_takes, getIx_0, inQ_A nx, inQ_N nx, inQ_P nx, inQ_I nx, eqQ_kind _ nx, e, big_ge, takes, getIx_1]
            cases kinds x kPlain with
            | true => rfl
            | false =>
            cases kinds x kNM with
            | true => simp [ev, evs, evI, evAnd, evOr, ex, start, E.isNil, setTg, bind_ok, bind_exc, bind_bad, bind_ite, bind_bind, noexc_ok, lift_some, lift_none, lift_ite, fin_ret, fin_next, cmp_eq, cmp_ne, cmp_lt, cmp_le, cmp_gt, cmp_ge, cmp_in, cmp_notIn, cmp_leS, cmp_ltS, cmp_is, cmp_isNot, in_str, eqQ_int, eqQ_str, add_int, sub_int, add_lst, add_tup, add_str, idx_lst, idx_tup, idx_str, tru_bl, tru_int, tru_lst, tru_tup, tru_str, tru_non, len_lst, len_tup, len_str, bi_int, bi_all, bi_any, bi_tuple, seq_lst, seq_tup, seq_str, tst_nil, tst_c, map_some, map_ite, isi_tup_t, isi_str_t, wipe_nil, wipe_cons, e1]
            | false =>
            cases kindIs x [116, 101, 120, 116] with
            | true => simp [ev, evs, evI, evAnd, evOr, ex, start, E.isNil, setTg, bind_ok, bind_exc, bind_bad, bind_ite, bind_bind, noexc_ok, lift_some, lift_none, lift_ite, fin_ret, fin_next, cmp_eq, cmp_ne, cmp_lt, cmp_le, cmp_gt, cmp_ge, cmp_in, cmp_notIn, cmp_leS, cmp_ltS, cmp_is, cmp_isNot, in_str, eqQ_int, eqQ_str, add_int, sub_int, add_lst, add_tup, add_str, idx_lst, idx_tup, idx_str, tru_bl, tru_int, tru_lst, tru_tup, tru_str, tru_non, len_lst, len_tup, len_str, bi_int, bi_all, bi_any, bi_tuple, seq_lst, seq_tup, seq_str, tst_nil, tst_c, map_some, map_ite, isi_tup_t, isi_str_t, wipe_nil, wipe_cons, e2]
            | false =>
            cases kindIs x [118, 97, 108, 117, 101] with
            | true => rfl
            | false =>
            cases kinds x kParted with
            | false =>
              cases kinds x kInner with
              | true => simp [ev, evs, evI, evAnd, evOr, ex, start, E.isNil, setTg, bind_ok, bind_exc, bind_bad, bind_ite, bind_bind, noexc_ok, lift_some, lift_none, lift_ite, fin_ret, fin_next, cmp_eq, cmp_ne, cmp_lt, cmp_le, cmp_gt, cmp_ge, cmp_in, cmp_notIn, cmp_leS, cmp_ltS, cmp_is, cmp_isNot, in_str, eqQ_int, eqQ_str, add_int, sub_int, add_lst, add_tup, add_str, idx_lst, idx_tup, idx_str, tru_bl, tru_int, tru_lst, tru_tup, tru_str, tru_non, len_lst, len_tup, len_str, bi_int, bi_all, bi_any, bi_tuple, seq_lst, seq_tup, seq_str, tst_nil, tst_c, map_some, map_ite, isi_tup_t, isi_str_t, wipe_nil, wipe_cons, ih]
              | false => rfl
            | true =>
              cases a with
              | tup ps =>
                have hps : okDs ps = true := ha
                have ihp := fun y (hy : y ∈ ps) => IH d y rfl (okDs_mem hps y hy)
                simp [ev, evs, evI, evAnd, evOr, ex, start, E.isNil, setTg, bind_ok, bind_exc, bind_bad, bind_ite, bind_bind, noexc_ok, lift_some, lift_none, lift_ite, fin_ret, fin_next, cmp_eq, cmp_ne, cmp_lt, cmp_le, cmp_gt, cmp_ge, cmp_in, cmp_notIn, cmp_leS, cmp_ltS, cmp_is, cmp_isNot, in_str, eqQ_int, eqQ_str, add_int, sub_int, add_lst, add_tup, add_str, idx_lst, idx_tup, idx_str, tru_bl, tru_int, tru_lst, tru_tup, tru_str, tru_non, len_lst, len_tup, len_str, bi_int, bi_all, bi_any, bi_tuple, seq_lst, seq_tup, seq_str, tst_nil, tst_c, map_some, map_ite, isi_tup_t, isi_str_t, wipe_nil, wipe_cons]
                rw [compL_pure (fun y => !takes d y) id _ (fun y hy => by
                  refine ⟨_, rfl, ?_, fun _ => rfl⟩
                  simp [ev, evs, evI, evAnd, evOr, ex, start, E.isNil, setTg, bind_ok, bind_exc, bind_bad, bind_ite, bind_bind, noexc_ok, lift_some, lift_none, lift_ite, fin_ret, fin_next, cmp_eq, cmp_ne, cmp_lt, cmp_le, cmp_gt, cmp_ge, cmp_in, cmp_notIn, cmp_leS, cmp_ltS, cmp_is, cmp_isNot, in_str, eqQ_int, eqQ_str, add_int, sub_int, add_lst, add_tup, add_str, idx_lst, idx_tup, idx_str, tru_bl, tru_int, tru_lst, tru_tup, tru_str, tru_non, len_lst, len_tup, len_str, bi_int, bi_all, bi_any, bi_tuple, seq_lst, seq_tup, seq_str, tst_nil, tst_c, map_some, map_ite, isi_tup_t, isi_str_t, wipe_nil, wipe_cons, ihp y hy])]
                simp only [noexc_ok, bind_ok, eqQ_nil (nobjs_filt (okDs_nobj ps hps)), lift_some, filt_all]
                by_cases h1 : 2 ≤ ps.length <;> by_cases h2 : ps.length ≤ 4
                · rw [if_pos (by omega), if_neg (by omega)]; simp [ev, evs, evI, evAnd, evOr, ex, start, E.isNil, setTg, bind_ok, bind_exc, bind_bad, bind_ite, bind_bind, noexc_ok, lift_some, lift_none, lift_ite, fin_ret, fin_next, cmp_eq, cmp_ne, cmp_lt, cmp_le, cmp_gt, cmp_ge, cmp_in, cmp_notIn, cmp_leS, cmp_ltS, cmp_is, cmp_isNot, in_str, eqQ_int, eqQ_str, add_int, sub_int, add_lst, add_tup, add_str, idx_lst, idx_tup, idx_str, tru_bl, tru_int, tru_lst, tru_tup, tru_str, tru_non, len_lst, len_tup, len_str, bi_int, bi_all, bi_any, bi_tuple, seq_lst, seq_tup, seq_str, tst_nil, tst_c, map_some, map_ite, isi_tup_t, isi_str_t, wipe_nil, wipe_cons, h1, h2]
                · rw [if_pos (by omega), if_pos (by omega)]; simp [ev, evs, evI, evAnd, evOr, ex, start, E.isNil, setTg, bind_ok, bind_exc, bind_bad, bind_ite, bind_bind, noexc_ok, lift_some, lift_none, lift_ite, fin_ret, fin_next, cmp_eq, cmp_ne, cmp_lt, cmp_le, cmp_gt, cmp_ge, cmp_in, cmp_notIn, cmp_leS, cmp_ltS, cmp_is, cmp_isNot, in_str, eqQ_int, eqQ_str, add_int, sub_int, add_lst, add_tup, add_str, idx_lst, idx_tup, idx_str, tru_bl, tru_int, tru_lst, tru_tup, tru_str, tru_non, len_lst, len_tup, len_str, bi_int, bi_all, bi_any, bi_tuple, seq_lst, seq_tup, seq_str, tst_nil, tst_c, map_some, map_ite, isi_tup_t, isi_str_t, wipe_nil, wipe_cons, h1, h2]
                · rw [if_neg (by omega)]; simp [ev, evs, evI, evAnd, evOr, ex, start, E.isNil, setTg, bind_ok, bind_exc, bind_bad, bind_ite, bind_bind, noexc_ok, lift_some, lift_none, lift_ite, fin_ret, fin_next, cmp_eq, cmp_ne, cmp_lt, cmp_le, cmp_gt, cmp_ge, cmp_in, cmp_notIn, cmp_leS, cmp_ltS, cmp_is, cmp_isNot, in_str, eqQ_int, eqQ_str, add_int, sub_int, add_lst, add_tup, add_str, idx_lst, idx_tup, idx_str, tru_bl, tru_int, tru_lst, tru_tup, tru_str, tru_non, len_lst, len_tup, len_str, bi_int, bi_all, bi_any, bi_tuple, seq_lst, seq_tup, seq_str, tst_nil, tst_c, map_some, map_ite, isi_tup_t, isi_str_t, wipe_nil, wipe_cons, h1, h2]
                · rw [if_neg (by omega)]; simp [ev, evs, evI, evAnd, evOr, ex, start, E.isNil, setTg, bind_ok, bind_exc, bind_bad, bind_ite, bind_bind, noexc_ok, lift_some, lift_none, lift_ite, fin_ret, fin_next, cmp_eq, cmp_ne, cmp_lt, cmp_le, cmp_gt, cmp_ge, cmp_in, cmp_notIn, cmp_leS, cmp_ltS, cmp_is, cmp_isNot, in_str, eqQ_int, eqQ_str, add_int, sub_int, add_lst, add_tup, add_str, idx_lst, idx_tup, idx_str, tru_bl, tru_int, tru_lst, tru_tup, tru_str, tru_non, len_lst, len_tup, len_str, bi_int, bi_all, bi_any, bi_tuple, seq_lst, seq_tup, seq_str, tst_nil, tst_c, map_some, map_ite, isi_tup_t, isi_str_t, wipe_nil, wipe_cons, h1, h2]
              | obj n => cases ha
              | _ => rfl
          · have ha : okD a = true := okDs_mem hr a List.mem_cons_self
            have hb : okD b = true := okDs_mem hr b (by simp [ev, evs, evI, evAnd, evOr, ex, start, E.isNil, setTg, bind_ok, bind_exc, bind_bad, bind_ite, bind_bind, noexc_ok, lift_some, lift_none, lift_ite, fin_ret, fin_next, cmp_eq, cmp_ne, cmp_lt, cmp_le, cmp_gt, cmp_ge, cmp_in, cmp_notIn, cmp_leS, cmp_ltS, cmp_is, cmp_isNot, in_str, eqQ_int, eqQ_str, add_int, sub_int, add_lst, add_tup, add_str, idx_lst, idx_tup, idx_str, tru_bl, tru_int, tru_lst, tru_tup, tru_str, tru_non, len_lst, len_tup, len_str, bi_int, bi_all, bi_any, bi_tuple, seq_lst, seq_tup, seq_str, tst_nil, tst_c, map_some, map_ite, isi_tup_t, isi_str_t, wipe_nil, wipe_cons])
            have e1 := call_law_name (k := k + d + 1) (M := M) (okD_nobj a ha)
            have e2 := call_law_text (k := k + d + 1) (M := M) hb
            simp [ev, evs, evI, evAnd, evOr, ex, start, E.isNil, setTg, bind_ok, bind_exc, bind_bad, bind_ite, bind_bind, noexc_ok, lift_some, lift_none, lift_ite, fin_ret, fin_next, cmp_eq, cmp_ne, cmp_lt, cmp_le, cmp_gt, cmp_ge, cmp_in, cmp_notIn, cmp_leS, cmp_ltS, cmp_is, cmp_isNot, in_str, eqQ_int, eqQ_str, add_int, sub_int, add_lst, add_tup, add_str, idx_lst, idx_tup, idx_str, tru_bl, tru_int, tru_lst, tru_tup, tru_str, tru_non, len_lst, len_tup, len_str, bi_int, bi_all, bi_any, bi_tuple, seq_lst, seq_tup, seq_str, tst_nil, tst_c, map_some, map_ite, isi_tup_t, isi_str_t, wipe_nil, wipe_cons, F_l_law_takes, S_l_law_takes, getIx_0, inQ_A nx, inQ_N nx, inQ_P nx, inQ_I nx, eqQ_kind _ nx, e, big_ge, takes, getIx_1, getIx_2]
            cases kinds x kPlain with
            | true => rfl
            | false =>
            cases kinds x kNM with
            | true => rfl
            | false =>
            cases kindIs x [116, 101, 120, 116] with
            | true => rfl
            | false =>
            cases kindIs x [118, 97, 108, 117, 101] with
            | true =>
              simp [ev, evs, evI, evAnd, evOr, ex, start, E.isNil, setTg, bind_ok, bind_exc, bind_bad, bind_ite, bind_bind, noexc_ok, lift_some, lift_none, lift_ite, fin_ret, fin_next, cmp_eq, cmp_ne, cmp_lt, cmp_le, cmp_gt, cmp_ge, cmp_in, cmp_notIn, cmp_leS, cmp_ltS, cmp_is, cmp_isNot, in_str, eqQ_int, eqQ_str, add_int, sub_int, add_lst, add_tup, add_str, idx_lst, idx_tup, idx_str, tru_bl, tru_int, tru_lst, tru_tup, tru_str, tru_non, len_lst, len_tup, len_str, bi_int, bi_all, bi_any, bi_tuple, seq_lst, seq_tup, seq_str, tst_nil, tst_c, map_some, map_ite, isi_tup_t, isi_str_t, wipe_nil, wipe_cons, e1]
              cases isNameD a with
              | true => simp [ev, evs, evI, evAnd, evOr, ex, start, E.isNil, setTg, bind_ok, bind_exc, bind_bad, bind_ite, bind_bind, noexc_ok, lift_some, lift_none, lift_ite, fin_ret, fin_next, cmp_eq, cmp_ne, cmp_lt, cmp_le, cmp_gt, cmp_ge, cmp_in, cmp_notIn, cmp_leS, cmp_ltS, cmp_is, cmp_isNot, in_str, eqQ_int, eqQ_str, add_int, sub_int, add_lst, add_tup, add_str, idx_lst, idx_tup, idx_str, tru_bl, tru_int, tru_lst, tru_tup, tru_str, tru_non, len_lst, len_tup, len_str, bi_int, bi_all, bi_any, bi_tuple, seq_lst, seq_tup, seq_str, tst_nil, tst_c, map_some, map_ite, isi_tup_t, isi_str_t, wipe_nil, wipe_cons, e2]
              | false => rfl
            | false => cases kinds x kParted <;> cases kinds x kInner <;> rfl
          · simp [ev, evs, evI, evAnd, evOr, ex, start, E.isNil, setTg, bind_ok, bind_exc, bind_bad, bind_ite, bind_bind, noexc_ok, lift_some, lift_none, lift_ite, fin_ret, fin_next, cmp_eq, cmp_ne, cmp_lt, cmp_le, cmp_gt, cmp_ge, cmp_in, cmp_notIn, cmp_leS, cmp_ltS, cmp_is, cmp_isNot, in_str, eqQ_int, eqQ_str, add_int, sub_int, add_lst, add_tup, add_str, idx_lst, idx_tup, idx_str, tru_bl, tru_int, tru_lst, tru_tup, tru_str, tru_non, len_lst, len_tup, len_str, bi_int, bi_all, bi_any, bi_tuple, seq_lst, seq_tup, seq_str, tst_nil, tst_c, map_some, map_ite, isi_tup_t, isi_str_t, wipe_nil, wipe_cons, F_l_law_takes, S_l_law_takes, getIx_0, inQ_A nx, inQ_N nx, inQ_P nx, inQ_I nx, eqQ_kind _ nx, e, big_ge, takes, getIx_1, getIx_2, int_ne, int_beq]
    | str cs => cases d <;> rfl
    | non => cases d <;> rfl
    | bl b => cases d <;> rfl
    | int i => cases d <;> rfl
    | lst xs => cases d <;> rfl
theorem call_takes (d k : Nat) (v : D) (M : Mem) (hv : okD v = true) : callK GG CC 0 (k + d + 1 + 1) I_l_law_takes [v, .int d] M = .ok (D.bl (takes d v)) M := by
  induction d generalizing v with
  | zero => exact takes_step 0 k v M hv fun d' y h => by cases h
  | succ d ih =>
    refine takes_step (d + 1) k v M hv fun d' y h hy => ?_
    cases h
    exact ih y hy
end Ev

set_option maxRecDepth 100000
set_option maxHeartbeats 8000000
namespace Ev
/-- of words -/
def wordD (x : D) (r : List D) : Bool :=
  if kindIs x kValue then (match r with | [a, b] => isNameD a && isPlainD b | _ => false)
  else match r with | [a] => (if kindIs x kText then isPlainD a else isNameD a) | _ => false
theorem call_word {k : Nat} {x : D} {r : List D} {M : Mem} (hx : x.nobj = true) (hr : nobjs r = true) : callK GG CC 0 (k + 1 + 1) I_queries_is_word_test [.tup (x :: r)] M = .ok (D.bl (wordD x r)) M := by
  rw [callK_at (fd := F_queries_is_word_test) rfl rfl]
  rcases r with _ | ⟨a, _ | ⟨b, _ | ⟨c, r⟩⟩⟩
  · simp [ev, evs, evI, evAnd, evOr, ex, start, E.isNil, setTg, bind_ok, bind_exc, bind_bad, bind_ite, bind_bind, noexc_ok, lift_some, lift_none, lift_ite, fin_ret, fin_next, cmp_eq, cmp_ne, cmp_lt, cmp_le, cmp_gt, cmp_ge, cmp_in, cmp_notIn, cmp_leS, cmp_ltS, cmp_is, cmp_isNot, in_str, eqQ_int, eqQ_str, add_int, sub_int, add_lst, add_tup, add_str, idx_lst, idx_tup, idx_str, tru_bl, tru_int, tru_lst, tru_tup, tru_str, tru_non, len_lst, len_tup, len_str, bi_int, bi_all, bi_any, bi_tuple, seq_lst, seq_tup, seq_str, tst_nil, tst_c, map_some, map_ite, isi_tup_t, isi_str_t, wipe_nil, wipe_cons, F_queries_is_word_test, S_queries_is_word_test, getIx_0, eqQ_kind _ hx, wordD]
  · have ha : a.nobj = true := by simp [ev, evs, evI, evAnd, evOr, ex, start, E.isNil, setTg, bind_ok, bind_exc, bind_bad, bind_ite, bind_bind, noexc_ok, lift_some, lift_none, lift_ite, fin_ret, fin_next, cmp_eq, cmp_ne, cmp_lt, cmp_le, cmp_gt, cmp_ge, cmp_in, cmp_notIn, cmp_leS, cmp_ltS, cmp_is, cmp_isNot, in_str, eqQ_int, eqQ_str, add_int, sub_int, add_lst, add_tup, add_str, idx_lst, idx_tup, idx_str, tru_bl, tru_int, tru_lst, tru_tup, tru_str, tru_non, len_lst, len_tup, len_str, bi_int, bi_all, bi_any, bi_tuple, seq_lst, seq_tup, seq_str, tst_nil, tst_c, map_some, map_ite, isi_tup_t, isi_str_t, wipe_nil, wipe_cons, nobjs] at hr; exact hr
    have e1 := call_is_name (k := k) (M := M) ha
    have e2 := call_is_plain (k := k) (M := M) ha
    simp [ev, evs, evI, evAnd, evOr, ex, start, E.isNil, setTg, bind_ok, bind_exc, bind_bad, bind_ite, bind_bind, noexc_ok, lift_some, lift_none, lift_ite, fin_ret, fin_next, cmp_eq, cmp_ne, cmp_lt, cmp_le, cmp_gt, cmp_ge, cmp_in, cmp_notIn, cmp_leS, cmp_ltS, cmp_is, cmp_isNot, in_str, eqQ_int, eqQ_str, add_int, sub_int, add_lst, add_tup, add_str, idx_lst, idx_tup, idx_str, tru_bl, tru_int, tru_lst, tru_tup, tru_str, tru_non, len_lst, len_tup, len_str, bi_int, bi_all, bi_any, bi_tuple, seq_lst, seq_tup, seq_str, tst_nil, tst_c, map_some, map_ite, isi_tup_t, isi_str_t, wipe_nil, wipe_cons, F_queries_is_word_test, S_queries_is_word_test, getIx_0, getIx_1, eqQ_kind _ hx, wordD]
    cases kindIs x [118, 97, 108, 117, 101] with
    | true => rfl
    | false => cases kindIs x [116, 101, 120, 116] <;> simp [ev, evs, evI, evAnd, evOr, ex, start, E.isNil, setTg, bind_ok, bind_exc, bind_bad, bind_ite, bind_bind, noexc_ok, lift_some, lift_none, lift_ite, fin_ret, fin_next, cmp_eq, cmp_ne, cmp_lt, cmp_le, cmp_gt, cmp_ge, cmp_in, cmp_notIn, cmp_leS, cmp_ltS, cmp_is, cmp_isNot, in_str, eqQ_int, eqQ_str, add_int, sub_int, add_lst, add_tup, add_str, idx_lst, idx_tup, idx_str, tru_bl, tru_int, tru_lst, tru_tup, tru_str, tru_non, len_lst, len_tup, len_str, bi_int, bi_all, bi_any, bi_tuple, seq_lst, seq_tup, seq_str, tst_nil, tst_c, map_some, map_ite, isi_tup_t, isi_str_t, wipe_nil, wipe_cons, e1, e2]
  · have ha : a.nobj = true ∧ b.nobj = true := by simp [ev, evs, evI, evAnd, evOr, ex, start, E.isNil, setTg, bind_ok, bind_exc, bind_bad, bind_ite, bind_bind, noexc_ok, lift_some, lift_none, lift_ite, fin_ret, fin_next, cmp_eq, cmp_ne, cmp_lt, cmp_le, cmp_gt, cmp_ge, cmp_in, cmp_notIn, cmp_leS, cmp_ltS, cmp_is, cmp_isNot, in_str, eqQ_int, eqQ_str, add_int, sub_int, add_lst, add_tup, add_str, idx_lst, idx_tup, idx_str, tru_bl, tru_int, tru_lst, tru_tup, tru_str, tru_non, len_lst, len_tup, len_str, bi_int, bi_all, bi_any, bi_tuple, seq_lst, seq_tup, seq_str, tst_nil, tst_c, map_some, map_ite, isi_tup_t, isi_str_t, wipe_nil, wipe_cons, nobjs] at hr; exact hr
    have e1 := call_is_name (k := k) (M := M) ha.1
    have e2 := call_is_plain (k := k) (M := M) ha.2
    simp [ev, evs, evI, evAnd, evOr, ex, start, E.isNil, setTg, bind_ok, bind_exc, bind_bad, bind_ite, bind_bind, noexc_ok, lift_some, lift_none, lift_ite, fin_ret, fin_next, cmp_eq, cmp_ne, cmp_lt, cmp_le, cmp_gt, cmp_ge, cmp_in, cmp_notIn, cmp_leS, cmp_ltS, cmp_is, cmp_isNot, in_str, eqQ_int, eqQ_str, add_int, sub_int, add_lst, add_tup, add_str, idx_lst, idx_tup, idx_str, tru_bl, tru_int, tru_lst, tru_tup, tru_str, tru_non, len_lst, len_tup, len_str, bi_int, bi_all, bi_any, bi_tuple, seq_lst, seq_tup, seq_str, tst_nil, tst_c, map_some, map_ite, isi_tup_t, isi_str_t, wipe_nil, wipe_cons, F_queries_is_word_test, S_queries_is_word_test, getIx_0, getIx_1, getIx_2, eqQ_kind _ hx, wordD]
    cases kindIs x [118, 97, 108, 117, 101] with
    | true =>
      simp [ev, evs, evI, evAnd, evOr, ex, start, E.isNil, setTg, bind_ok, bind_exc, bind_bad, bind_ite, bind_bind, noexc_ok, lift_some, lift_none, lift_ite, fin_ret, fin_next, cmp_eq, cmp_ne, cmp_lt, cmp_le, cmp_gt, cmp_ge, cmp_in, cmp_notIn, cmp_leS, cmp_ltS, cmp_is, cmp_isNot, in_str, eqQ_int, eqQ_str, add_int, sub_int, add_lst, add_tup, add_str, idx_lst, idx_tup, idx_str, tru_bl, tru_int, tru_lst, tru_tup, tru_str, tru_non, len_lst, len_tup, len_str, bi_int, bi_all, bi_any, bi_tuple, seq_lst, seq_tup, seq_str, tst_nil, tst_c, map_some, map_ite, isi_tup_t, isi_str_t, wipe_nil, wipe_cons, e1]
      cases isNameD a with
      | true => simp [ev, evs, evI, evAnd, evOr, ex, start, E.isNil, setTg, bind_ok, bind_exc, bind_bad, bind_ite, bind_bind, noexc_ok, lift_some, lift_none, lift_ite, fin_ret, fin_next, cmp_eq, cmp_ne, cmp_lt, cmp_le, cmp_gt, cmp_ge, cmp_in, cmp_notIn, cmp_leS, cmp_ltS, cmp_is, cmp_isNot, in_str, eqQ_int, eqQ_str, add_int, sub_int, add_lst, add_tup, add_str, idx_lst, idx_tup, idx_str, tru_bl, tru_int, tru_lst, tru_tup, tru_str, tru_non, len_lst, len_tup, len_str, bi_int, bi_all, bi_any, bi_tuple, seq_lst, seq_tup, seq_str, tst_nil, tst_c, map_some, map_ite, isi_tup_t, isi_str_t, wipe_nil, wipe_cons, e2]
      | false => rfl
    | false => rfl
  · simp [ev, evs, evI, evAnd, evOr, ex, start, E.isNil, setTg, bind_ok, bind_exc, bind_bad, bind_ite, bind_bind, noexc_ok, lift_some, lift_none, lift_ite, fin_ret, fin_next, cmp_eq, cmp_ne, cmp_lt, cmp_le, cmp_gt, cmp_ge, cmp_in, cmp_notIn, cmp_leS, cmp_ltS, cmp_is, cmp_isNot, in_str, eqQ_int, eqQ_str, add_int, sub_int, add_lst, add_tup, add_str, idx_lst, idx_tup, idx_str, tru_bl, tru_int, tru_lst, tru_tup, tru_str, tru_non, len_lst, len_tup, len_str, bi_int, bi_all, bi_any, bi_tuple, seq_lst, seq_tup, seq_str, tst_nil, tst_c, map_some, map_ite, isi_tup_t, isi_str_t, wipe_nil, wipe_cons, F_queries_is_word_test, S_queries_is_word_test, getIx_0, getIx_1, getIx_2, eqQ_kind _ hx, wordD, int_ne, int_beq]
theorem kind_of {x : D} {s : List Nat} (h : kindIs x s = true) : x = .str s := by
  cases x <;> first | exact absurd h Bool.false_ne_true | skip
  rename_i y
  have e : y = s := by simpa [kindIs] using h
  rw [e]
theorem kinds_words (x : D) : kinds x kWords = (kinds x kNM || kindIs x kText) := by
  simp [ev, evs, evI, evAnd, evOr, ex, start, E.isNil, setTg, bind_ok, bind_exc, bind_bad, bind_ite, bind_bind, noexc_ok, lift_some, lift_none, lift_ite, fin_ret, fin_next, cmp_eq, cmp_ne, cmp_lt, cmp_le, cmp_gt, cmp_ge, cmp_in, cmp_notIn, cmp_leS, cmp_ltS, cmp_is, cmp_isNot, in_str, eqQ_int, eqQ_str, add_int, sub_int, add_lst, add_tup, add_str, idx_lst, idx_tup, idx_str, tru_bl, tru_int, tru_lst, tru_tup, tru_str, tru_non, len_lst, len_tup, len_str, bi_int, bi_all, bi_any, bi_tuple, seq_lst, seq_tup, seq_str, tst_nil, tst_c, map_some, map_ite, isi_tup_t, isi_str_t, wipe_nil, wipe_cons, kinds, Bool.or_assoc]
/-- the defs' words tell the same as the reader's -/
theorem word_takes (x : D) (r : List D) (h : (kinds x kWords || kindIs x kValue) = true) : wordD x r = if kinds x kNM then (match r with | [a] => isNameD a | _ => false)
    else if kindIs x kText then (match r with | [a] => isPlainD a | _ => false)
    else (match r with | [a, b] => isNameD a && isPlainD b | _ => false) := by
  rw [kinds_words] at h
  unfold wordD
  cases hv : kindIs x kValue with
  | true =>
    have e := kind_of hv
    subst e
    rfl
  | false =>
    rw [hv, Bool.or_false] at h
    cases hn : kinds x kNM with
    | true =>
      have ht : kindIs x kText = false := by
        cases ht : kindIs x kText with
        | false => rfl
        | true =>
          have e := kind_of ht
          subst e
          cases hn
      rcases r with _ | ⟨a, _ | ⟨b, r⟩⟩ <;> simp [ev, evs, evI, evAnd, evOr, ex, start, E.isNil, setTg, bind_ok, bind_exc, bind_bad, bind_ite, bind_bind, noexc_ok, lift_some, lift_none, lift_ite, fin_ret, fin_next, cmp_eq, cmp_ne, cmp_lt, cmp_le, cmp_gt, cmp_ge, cmp_in, cmp_notIn, cmp_leS, cmp_ltS, cmp_is, cmp_isNot, in_str, eqQ_int, eqQ_str, add_int, sub_int, add_lst, add_tup, add_str, idx_lst, idx_tup, idx_str, tru_bl, tru_int, tru_lst, tru_tup, tru_str, tru_non, len_lst, len_tup, len_str, bi_int, bi_all, bi_any, bi_tuple, seq_lst, seq_tup, seq_str, tst_nil, tst_c, map_some, map_ite, isi_tup_t, isi_str_t, wipe_nil, wipe_cons, ht]
    | false =>
      rw [hn, Bool.false_or] at h
      rcases r with _ | ⟨a, _ | ⟨b, r⟩⟩ <;> simp [ev, evs, evI, evAnd, evOr, ex, start, E.isNil, setTg, bind_ok, bind_exc, bind_bad, bind_ite, bind_bind, noexc_ok, lift_some, lift_none, lift_ite, fin_ret, fin_next, cmp_eq, cmp_ne, cmp_lt, cmp_le, cmp_gt, cmp_ge, cmp_in, cmp_notIn, cmp_leS, cmp_ltS, cmp_is, cmp_isNot, in_str, eqQ_int, eqQ_str, add_int, sub_int, add_lst, add_tup, add_str, idx_lst, idx_tup, idx_str, tru_bl, tru_int, tru_lst, tru_tup, tru_str, tru_non, len_lst, len_tup, len_str, bi_int, bi_all, bi_any, bi_tuple, seq_lst, seq_tup, seq_str, tst_nil, tst_c, map_some, map_ite, isi_tup_t, isi_str_t, wipe_nil, wipe_cons, h]
theorem call_parts {k d : Nat} {ps : List D} {p : D → Bool} {M : Mem} (ih : ∀ y ∈ ps, callK GG CC 0 k I_queries_is_deep_test [y, .int d] M = .ok (D.bl (p y)) M) :
    callK GG CC 0 (k + 1) I_queries_are_parts [.tup ps, .int d] M = .ok (D.bl (decide (2 ≤ ps.length) && decide (ps.length ≤ 4) && ps.all p)) M := by
  rw [callK_at (fd := F_queries_are_parts) rfl rfl]
  simp [ev, evs, evI, evAnd, evOr, ex, start, E.isNil, setTg, bind_ok, bind_exc, bind_bad, bind_ite, bind_bind, noexc_ok, lift_some, lift_none, lift_ite, fin_ret, fin_next, cmp_eq, cmp_ne, cmp_lt, cmp_le, cmp_gt, cmp_ge, cmp_in, cmp_notIn, cmp_leS, cmp_ltS, cmp_is, cmp_isNot, in_str, eqQ_int, eqQ_str, add_int, sub_int, add_lst, add_tup, add_str, idx_lst, idx_tup, idx_str, tru_bl, tru_int, tru_lst, tru_tup, tru_str, tru_non, len_lst, len_tup, len_str, bi_int, bi_all, bi_any, bi_tuple, seq_lst, seq_tup, seq_str, tst_nil, tst_c, map_some, map_ite, isi_tup_t, isi_str_t, wipe_nil, wipe_cons, F_queries_are_parts, S_queries_are_parts, con_11]
  rw [compL_pure (fun _ => true) (fun y => D.bl (p y)) _ (fun y hy => by
    refine ⟨_, rfl, rfl, fun _ => ?_⟩
    simp [ev, evs, evI, evAnd, evOr, ex, start, E.isNil, setTg, bind_ok, bind_exc, bind_bad, bind_ite, bind_bind, noexc_ok, lift_some, lift_none, lift_ite, fin_ret, fin_next, cmp_eq, cmp_ne, cmp_lt, cmp_le, cmp_gt, cmp_ge, cmp_in, cmp_notIn, cmp_leS, cmp_ltS, cmp_is, cmp_isNot, in_str, eqQ_int, eqQ_str, add_int, sub_int, add_lst, add_tup, add_str, idx_lst, idx_tup, idx_str, tru_bl, tru_int, tru_lst, tru_tup, tru_str, tru_non, len_lst, len_tup, len_str, bi_int, bi_all, bi_any, bi_tuple, seq_lst, seq_tup, seq_str, tst_nil, tst_c, map_some, map_ite, isi_tup_t, isi_str_t, wipe_nil, wipe_cons, ih y hy])]
  rw [List.filter_eq_self.mpr (by simp [ev, evs, evI, evAnd, evOr, ex, start, E.isNil, setTg, bind_ok, bind_exc, bind_bad, bind_ite, bind_bind, noexc_ok, lift_some, lift_none, lift_ite, fin_ret, fin_next, cmp_eq, cmp_ne, cmp_lt, cmp_le, cmp_gt, cmp_ge, cmp_in, cmp_notIn, cmp_leS, cmp_ltS, cmp_is, cmp_isNot, in_str, eqQ_int, eqQ_str, add_int, sub_int, add_lst, add_tup, add_str, idx_lst, idx_tup, idx_str, tru_bl, tru_int, tru_lst, tru_tup, tru_str, tru_non, len_lst, len_tup, len_str, bi_int, bi_all, bi_any, bi_tuple, seq_lst, seq_tup, seq_str, tst_nil, tst_c, map_some, map_ite, isi_tup_t, isi_str_t, wipe_nil, wipe_cons])]
  simp [ev, evs, evI, evAnd, evOr, ex, start, E.isNil, setTg, bind_ok, bind_exc, bind_bad, bind_ite, bind_bind, noexc_ok, lift_some, lift_none, lift_ite, fin_ret, fin_next, cmp_eq, cmp_ne, cmp_lt, cmp_le, cmp_gt, cmp_ge, cmp_in, cmp_notIn, cmp_leS, cmp_ltS, cmp_is, cmp_isNot, in_str, eqQ_int, eqQ_str, add_int, sub_int, add_lst, add_tup, add_str, idx_lst, idx_tup, idx_str, tru_bl, tru_int, tru_lst, tru_tup, tru_str, tru_non, len_lst, len_tup, len_str, bi_int, bi_all, bi_any, bi_tuple, seq_lst, seq_tup, seq_str, tst_nil, tst_c, map_some, map_ite, isi_tup_t, isi_str_t, wipe_nil, wipe_cons, boolsOf_map]
  by_cases h1 : 2 ≤ ps.length <;> by_cases h2 : ps.length ≤ 4
  · rw [if_pos (by omega), if_neg (by omega)]; simp [ev, evs, evI, evAnd, evOr, ex, start, E.isNil, setTg, bind_ok, bind_exc, bind_bad, bind_ite, bind_bind, noexc_ok, lift_some, lift_none, lift_ite, fin_ret, fin_next, cmp_eq, cmp_ne, cmp_lt, cmp_le, cmp_gt, cmp_ge, cmp_in, cmp_notIn, cmp_leS, cmp_ltS, cmp_is, cmp_isNot, in_str, eqQ_int, eqQ_str, add_int, sub_int, add_lst, add_tup, add_str, idx_lst, idx_tup, idx_str, tru_bl, tru_int, tru_lst, tru_tup, tru_str, tru_non, len_lst, len_tup, len_str, bi_int, bi_all, bi_any, bi_tuple, seq_lst, seq_tup, seq_str, tst_nil, tst_c, map_some, map_ite, isi_tup_t, isi_str_t, wipe_nil, wipe_cons, h1, h2, Function.comp_def]
  · rw [if_pos (by omega), if_pos (by omega)]; simp [ev, evs, evI, evAnd, evOr, ex, start, E.isNil, setTg, bind_ok, bind_exc, bind_bad, bind_ite, bind_bind, noexc_ok, lift_some, lift_none, lift_ite, fin_ret, fin_next, cmp_eq, cmp_ne, cmp_lt, cmp_le, cmp_gt, cmp_ge, cmp_in, cmp_notIn, cmp_leS, cmp_ltS, cmp_is, cmp_isNot, in_str, eqQ_int, eqQ_str, add_int, sub_int, add_lst, add_tup, add_str, idx_lst, idx_tup, idx_str, tru_bl, tru_int, tru_lst, tru_tup, tru_str, tru_non, len_lst, len_tup, len_str, bi_int, bi_all, bi_any, bi_tuple, seq_lst, seq_tup, seq_str, tst_nil, tst_c, map_some, map_ite, isi_tup_t, isi_str_t, wipe_nil, wipe_cons, h1, h2]
  · rw [if_neg (by omega)]; simp [ev, evs, evI, evAnd, evOr, ex, start, E.isNil, setTg, bind_ok, bind_exc, bind_bad, bind_ite, bind_bind, noexc_ok, lift_some, lift_none, lift_ite, fin_ret, fin_next, cmp_eq, cmp_ne, cmp_lt, cmp_le, cmp_gt, cmp_ge, cmp_in, cmp_notIn, cmp_leS, cmp_ltS, cmp_is, cmp_isNot, in_str, eqQ_int, eqQ_str, add_int, sub_int, add_lst, add_tup, add_str, idx_lst, idx_tup, idx_str, tru_bl, tru_int, tru_lst, tru_tup, tru_str, tru_non, len_lst, len_tup, len_str, bi_int, bi_all, bi_any, bi_tuple, seq_lst, seq_tup, seq_str, tst_nil, tst_c, map_some, map_ite, isi_tup_t, isi_str_t, wipe_nil, wipe_cons, h1, h2]
  · rw [if_neg (by omega)]; simp [ev, evs, evI, evAnd, evOr, ex, start, E.isNil, setTg, bind_ok, bind_exc, bind_bad, bind_ite, bind_bind, noexc_ok, lift_some, lift_none, lift_ite, fin_ret, fin_next, cmp_eq, cmp_ne, cmp_lt, cmp_le, cmp_gt, cmp_ge, cmp_in, cmp_notIn, cmp_leS, cmp_ltS, cmp_is, cmp_isNot, in_str, eqQ_int, eqQ_str, add_int, sub_int, add_lst, add_tup, add_str, idx_lst, idx_tup, idx_str, tru_bl, tru_int, tru_lst, tru_tup, tru_str, tru_non, len_lst, len_tup, len_str, bi_int, bi_all, bi_any, bi_tuple, seq_lst, seq_tup, seq_str, tst_nil, tst_c, map_some, map_ite, isi_tup_t, isi_str_t, wipe_nil, wipe_cons, h1, h2]
theorem call_parts_no {k : Nat} {d : Int} {a : D} {M : Mem} (h : isiQ .tuple a = some false) : callK GG CC 0 (k + 1) I_queries_are_parts [a, .int d] M = .ok (D.bl false) M := by
  rw [callK_at (fd := F_queries_are_parts) rfl rfl]
  simp [ev, evs, evI, evAnd, evOr, ex, start, E.isNil, setTg, bind_ok, bind_exc, bind_bad, bind_ite, bind_bind, noexc_ok, lift_some, lift_none, lift_ite, fin_ret, fin_next, cmp_eq, cmp_ne, cmp_lt, cmp_le, cmp_gt, cmp_ge, cmp_in, cmp_notIn, cmp_leS, cmp_ltS, cmp_is, cmp_isNot, in_str, eqQ_int, eqQ_str, add_int, sub_int, add_lst, add_tup, add_str, idx_lst, idx_tup, idx_str, tru_bl, tru_int, tru_lst, tru_tup, tru_str, tru_non, len_lst, len_tup, len_str, bi_int, bi_all, bi_any, bi_tuple, seq_lst, seq_tup, seq_str, tst_nil, tst_c, map_some, map_ite, isi_tup_t, isi_str_t, wipe_nil, wipe_cons, F_queries_are_parts, S_queries_are_parts, h]
theorem len_ne0 (n : Nat) : ((n : Int) + 1 = 0) = False := by
  apply eq_false
  omega
theorem len_beq0 (n : Nat) : ((n : Int) + 1 == 0) = false := by
  simp [ev, evs, evI, evAnd, evOr, ex, start, E.isNil, setTg, bind_ok, bind_exc, bind_bad, bind_ite, bind_bind, noexc_ok, lift_some, lift_none, lift_ite, fin_ret, fin_next, cmp_eq, cmp_ne, cmp_lt, cmp_le, cmp_gt, cmp_ge, cmp_in, cmp_notIn, cmp_leS, cmp_ltS, cmp_is, cmp_isNot, in_str, eqQ_int, eqQ_str, add_int, sub_int, add_lst, add_tup, add_str, idx_lst, idx_tup, idx_str, tru_bl, tru_int, tru_lst, tru_tup, tru_str, tru_non, len_lst, len_tup, len_str, bi_int, bi_all, bi_any, bi_tuple, seq_lst, seq_tup, seq_str, tst_nil, tst_c, map_some, map_ite, isi_tup_t, isi_str_t, wipe_nil, wipe_cons]
  omega
theorem len_beq1 (r : List D) : ((r.length : Int) + 1 == 1) = r.isEmpty := by
  cases r with
  | nil => rfl
  | cons a r => simp [ev, evs, evI, evAnd, evOr, ex, start, E.isNil, setTg, bind_ok, bind_exc, bind_bad, bind_ite, bind_bind, noexc_ok, lift_some, lift_none, lift_ite, fin_ret, fin_next, cmp_eq, cmp_ne, cmp_lt, cmp_le, cmp_gt, cmp_ge, cmp_in, cmp_notIn, cmp_leS, cmp_ltS, cmp_is, cmp_isNot, in_str, eqQ_int, eqQ_str, add_int, sub_int, add_lst, add_tup, add_str, idx_lst, idx_tup, idx_str, tru_bl, tru_int, tru_lst, tru_tup, tru_str, tru_non, len_lst, len_tup, len_str, bi_int, bi_all, bi_any, bi_tuple, seq_lst, seq_tup, seq_str, tst_nil, tst_c, map_some, map_ite, isi_tup_t, isi_str_t, wipe_nil, wipe_cons]; omega
theorem deep_step (d k : Nat) (v : D) (M : Mem) (hv : okD v = true) (IH : ∀ (d' k' : Nat) (y : D), d = d' + 1 → okD y = true → callK GG CC 0 (k' + 2 * d' + 1 + 1 + 1) I_queries_is_deep_test [y, .int d'] M = .ok (D.bl (takes d' y)) M) :
    callK GG CC 0 (k + 2 * d + 1 + 1 + 1) I_queries_is_deep_test [v, .int d] M = .ok (D.bl (takes d v)) M := by
    rw [callK_at (fd := F_queries_is_deep_test) rfl rfl]
    cases v with
    | obj n => cases hv
    | tup xs =>
      cases xs with
      | nil =>
        simp [ev, evs, evI, evAnd, evOr, ex, start, E.isNil, setTg, bind_ok, bind_exc, bind_bad, bind_ite, bind_bind, noexc_ok, lift_some, lift_none, lift_ite, fin_ret, fin_next, cmp_eq, cmp_ne, cmp_lt, cmp_le, cmp_gt, cmp_ge, cmp_in, cmp_notIn, cmp_leS, cmp_ltS, cmp_is, cmp_isNot, in_str, eqQ_int, eqQ_str, add_int, sub_int, add_lst, add_tup, add_str, idx_lst, idx_tup, idx_str, tru_bl, tru_int, tru_lst, tru_tup, tru_str, tru_non, len_lst, len_tup, len_str, bi_int, bi_all, bi_any, bi_tuple, seq_lst, seq_tup, seq_str, tst_nil, tst_c, map_some, map_ite, isi_tup_t, isi_str_t, wipe_nil, wipe_cons, F_queries_is_deep_test, S_queries_is_deep_test]
        cases d <;> rfl
      | cons x r =>
        have hv : (okD x && okDs r) = true := hv
        simp only [Bool.and_eq_true] at hv
        obtain ⟨hx, hr⟩ := hv
        have nx := okD_nobj x hx
        have nr := okDs_nobj r hr
        cases d with
        | zero => simp [ev, evs, evI, evAnd, evOr, ex, start, E.isNil, setTg, bind_ok, bind_exc, bind_bad, bind_ite, bind_bind, noexc_ok, lift_some, lift_none, lift_ite, fin_ret, fin_next, cmp_eq, cmp_ne, cmp_lt, cmp_le, cmp_gt, cmp_ge, cmp_in, cmp_notIn, cmp_leS, cmp_ltS, cmp_is, cmp_isNot, in_str, eqQ_int, eqQ_str, add_int, sub_int, add_lst, add_tup, add_str, idx_lst, idx_tup, idx_str, tru_bl, tru_int, tru_lst, tru_tup, tru_str, tru_non, len_lst, len_tup, len_str, bi_int, bi_all, bi_any, bi_tuple, seq_lst, seq_tup, seq_str, tst_nil, tst_c, map_some, map_ite, isi_tup_t, isi_str_t, wipe_nil, wipe_cons, F_queries_is_deep_test, S_queries_is_deep_test, takes, len_ne0, len_beq0]
        | succ d =>
          rw [show k + 2 * (d + 1) + 1 + 1 = k + 2 * d + 1 + 1 + 1 + 1 by omega]
          have ew := call_word (k := k + 2 * d + 1 + 1) (M := M) nx nr
          have wt := word_takes x r
          cases hA : kinds x kPlain with
          | true => simp [ev, evs, evI, evAnd, evOr, ex, start, E.isNil, setTg, bind_ok, bind_exc, bind_bad, bind_ite, bind_bind, noexc_ok, lift_some, lift_none, lift_ite, fin_ret, fin_next, cmp_eq, cmp_ne, cmp_lt, cmp_le, cmp_gt, cmp_ge, cmp_in, cmp_notIn, cmp_leS, cmp_ltS, cmp_is, cmp_isNot, in_str, eqQ_int, eqQ_str, add_int, sub_int, add_lst, add_tup, add_str, idx_lst, idx_tup, idx_str, tru_bl, tru_int, tru_lst, tru_tup, tru_str, tru_non, len_lst, len_tup, len_str, bi_int, bi_all, bi_any, bi_tuple, seq_lst, seq_tup, seq_str, tst_nil, tst_c, map_some, map_ite, isi_tup_t, isi_str_t, wipe_nil, wipe_cons, F_queries_is_deep_test, S_queries_is_deep_test, con_3, getIx_0, inQ_kinds _ nx, hA, takes, len_ne0, len_beq0, len_beq1, -List.map_cons, -List.map_nil]
          | false =>
          cases hW : (kinds x kWords || kindIs x kValue) with
          | true =>
            have e1 : takes (d + 1) (.tup (x :: r)) = wordD x r := by
              rw [wt hW]
              unfold takes
              rw [hA]
              rw [kinds_words] at hW
              cases hN : kinds x kNM <;> cases hT : kindIs x kText <;> cases hV : kindIs x kValue <;> first | rfl | (rw [hN, hT, hV] at hW; cases hW)
            rw [e1]
            cases hW1 : kinds x kWords with
            | true => simp [ev, evs, evI, evAnd, evOr, ex, start, E.isNil, setTg, bind_ok, bind_exc, bind_bad, bind_ite, bind_bind, noexc_ok, lift_some, lift_none, lift_ite, fin_ret, fin_next, cmp_eq, cmp_ne, cmp_lt, cmp_le, cmp_gt, cmp_ge, cmp_in, cmp_notIn, cmp_leS, cmp_ltS, cmp_is, cmp_isNot, in_str, eqQ_int, eqQ_str, add_int, sub_int, add_lst, add_tup, add_str, idx_lst, idx_tup, idx_str, tru_bl, tru_int, tru_lst, tru_tup, tru_str, tru_non, len_lst, len_tup, len_str, bi_int, bi_all, bi_any, bi_tuple, seq_lst, seq_tup, seq_str, tst_nil, tst_c, map_some, map_ite, isi_tup_t, isi_str_t, wipe_nil, wipe_cons, F_queries_is_deep_test, S_queries_is_deep_test, con_3, con_4, getIx_0, inQ_kinds _ nx, eqQ_kind _ nx, hA, hW1, len_ne0, len_beq0, ew, -List.map_cons, -List.map_nil]
            | false =>
              rw [hW1, Bool.false_or] at hW
              simp [ev, evs, evI, evAnd, evOr, ex, start, E.isNil, setTg, bind_ok, bind_exc, bind_bad, bind_ite, bind_bind, noexc_ok, lift_some, lift_none, lift_ite, fin_ret, fin_next, cmp_eq, cmp_ne, cmp_lt, cmp_le, cmp_gt, cmp_ge, cmp_in, cmp_notIn, cmp_leS, cmp_ltS, cmp_is, cmp_isNot, in_str, eqQ_int, eqQ_str, add_int, sub_int, add_lst, add_tup, add_str, idx_lst, idx_tup, idx_str, tru_bl, tru_int, tru_lst, tru_tup, tru_str, tru_non, len_lst, len_tup, len_str, bi_int, bi_all, bi_any, bi_tuple, seq_lst, seq_tup, seq_str, tst_nil, tst_c, map_some, map_ite, isi_tup_t, isi_str_t, wipe_nil, wipe_cons, F_queries_is_deep_test, S_queries_is_deep_test, con_3, con_4, getIx_0, inQ_kinds _ nx, eqQ_kind _ nx, hA, hW1, hW, len_ne0, len_beq0, ew, -List.map_cons, -List.map_nil]
          | false =>
            rw [kinds_words] at hW
            simp only [Bool.or_eq_false_iff] at hW
            obtain ⟨⟨hN, hT⟩, hV⟩ := hW
            have hW1 : kinds x kWords = false := by rw [kinds_words, hN, hT]; rfl
            cases hP : kinds x kParted with
            | true =>
              rcases r with _ | ⟨a, _ | ⟨b, r⟩⟩
              · simp [ev, evs, evI, evAnd, evOr, ex, start, E.isNil, setTg, bind_ok, bind_exc, bind_bad, bind_ite, bind_bind, noexc_ok, lift_some, lift_none, lift_ite, fin_ret, fin_next, cmp_eq, cmp_ne, cmp_lt, cmp_le, cmp_gt, cmp_ge, cmp_in, cmp_notIn, cmp_leS, cmp_ltS, cmp_is, cmp_isNot, in_str, eqQ_int, eqQ_str, add_int, sub_int, add_lst, add_tup, add_str, idx_lst, idx_tup, idx_str, tru_bl, tru_int, tru_lst, tru_tup, tru_str, tru_non, len_lst, len_tup, len_str, bi_int, bi_all, bi_any, bi_tuple, seq_lst, seq_tup, seq_str, tst_nil, tst_c, map_some, map_ite, isi_tup_t, isi_str_t, wipe_nil, wipe_cons, F_queries_is_deep_test, S_queries_is_deep_test, con_3, con_4, con_6, getIx_0, inQ_kinds _ nx, eqQ_kind _ nx, hA, hW1, hN, hT, hV, hP, takes, len_ne0, len_beq0, -List.map_cons, -List.map_nil]
              · cases a with
                | tup ps =>
                  have ha : okD (.tup ps) = true := okDs_mem hr _ List.mem_cons_self
                  have hps : okDs ps = true := ha
                  have ihp := call_parts (M := M) (d := d) fun y (hy : y ∈ ps) => IH d k y rfl (okDs_mem hps y hy)
                  simp [ev, evs, evI, evAnd, evOr, ex, start, E.isNil, setTg, bind_ok, bind_exc, bind_bad, bind_ite, bind_bind, noexc_ok, lift_some, lift_none, lift_ite, fin_ret, fin_next, cmp_eq, cmp_ne, cmp_lt, cmp_le, cmp_gt, cmp_ge, cmp_in, cmp_notIn, cmp_leS, cmp_ltS, cmp_is, cmp_isNot, in_str, eqQ_int, eqQ_str, add_int, sub_int, add_lst, add_tup, add_str, idx_lst, idx_tup, idx_str, tru_bl, tru_int, tru_lst, tru_tup, tru_str, tru_non, len_lst, len_tup, len_str, bi_int, bi_all, bi_any, bi_tuple, seq_lst, seq_tup, seq_str, tst_nil, tst_c, map_some, map_ite, isi_tup_t, isi_str_t, wipe_nil, wipe_cons, F_queries_is_deep_test, S_queries_is_deep_test, con_3, con_4, con_6, getIx_0, getIx_1, inQ_kinds _ nx, eqQ_kind _ nx, hA, hW1, hN, hT, hV, hP, takes, ihp, len_ne0, len_beq0, -List.map_cons, -List.map_nil]
                | obj n =>
                  have ha : okD (.obj n) = true := okDs_mem hr _ List.mem_cons_self
                  cases ha
                | _ =>
                  simp [ev, evs, evI, evAnd, evOr, ex, start, E.isNil, setTg, bind_ok, bind_exc, bind_bad, bind_ite, bind_bind, noexc_ok, lift_some, lift_none, lift_ite, fin_ret, fin_next, cmp_eq, cmp_ne, cmp_lt, cmp_le, cmp_gt, cmp_ge, cmp_in, cmp_notIn, cmp_leS, cmp_ltS, cmp_is, cmp_isNot, in_str, eqQ_int, eqQ_str, add_int, sub_int, add_lst, add_tup, add_str, idx_lst, idx_tup, idx_str, tru_bl, tru_int, tru_lst, tru_tup, tru_str, tru_non, len_lst, len_tup, len_str, bi_int, bi_all, bi_any, bi_tuple, seq_lst, seq_tup, seq_str, tst_nil, tst_c, map_some, map_ite, isi_tup_t, isi_str_t, wipe_nil, wipe_cons, F_queries_is_deep_test, S_queries_is_deep_test, con_3, con_4, con_6, getIx_0, getIx_1, inQ_kinds _ nx, eqQ_kind _ nx, hA, hW1, hN, hT, hV, hP, takes, len_ne0, len_beq0, -List.map_cons, -List.map_nil]
                  rw [call_parts_no rfl]
                  rfl
              · have e2 : ((r.length : Int) + 1 + 1 + 1 = 2) = False := by apply eq_false; omega
                have e3 : ((r.length : Int) + 1 + 1 + 1 == 2) = false := by simp [ev, evs, evI, evAnd, evOr, ex, start, E.isNil, setTg, bind_ok, bind_exc, bind_bad, bind_ite, bind_bind, noexc_ok, lift_some, lift_none, lift_ite, fin_ret, fin_next, cmp_eq, cmp_ne, cmp_lt, cmp_le, cmp_gt, cmp_ge, cmp_in, cmp_notIn, cmp_leS, cmp_ltS, cmp_is, cmp_isNot, in_str, eqQ_int, eqQ_str, add_int, sub_int, add_lst, add_tup, add_str, idx_lst, idx_tup, idx_str, tru_bl, tru_int, tru_lst, tru_tup, tru_str, tru_non, len_lst, len_tup, len_str, bi_int, bi_all, bi_any, bi_tuple, seq_lst, seq_tup, seq_str, tst_nil, tst_c, map_some, map_ite, isi_tup_t, isi_str_t, wipe_nil, wipe_cons]; omega
                simp [ev, evs, evI, evAnd, evOr, ex, start, E.isNil, setTg, bind_ok, bind_exc, bind_bad, bind_ite, bind_bind, noexc_ok, lift_some, lift_none, lift_ite, fin_ret, fin_next, cmp_eq, cmp_ne, cmp_lt, cmp_le, cmp_gt, cmp_ge, cmp_in, cmp_notIn, cmp_leS, cmp_ltS, cmp_is, cmp_isNot, in_str, eqQ_int, eqQ_str, add_int, sub_int, add_lst, add_tup, add_str, idx_lst, idx_tup, idx_str, tru_bl, tru_int, tru_lst, tru_tup, tru_str, tru_non, len_lst, len_tup, len_str, bi_int, bi_all, bi_any, bi_tuple, seq_lst, seq_tup, seq_str, tst_nil, tst_c, map_some, map_ite, isi_tup_t, isi_str_t, wipe_nil, wipe_cons, F_queries_is_deep_test, S_queries_is_deep_test, con_3, con_4, con_6, getIx_0, getIx_1, inQ_kinds _ nx, eqQ_kind _ nx, hA, hW1, hN, hT, hV, hP, takes, e2, e3, len_ne0, len_beq0, -List.map_cons, -List.map_nil]
            | false =>
            cases hI : kinds x kInner with
            | true =>
              rcases r with _ | ⟨a, _ | ⟨b, r⟩⟩
              · simp [ev, evs, evI, evAnd, evOr, ex, start, E.isNil, setTg, bind_ok, bind_exc, bind_bad, bind_ite, bind_bind, noexc_ok, lift_some, lift_none, lift_ite, fin_ret, fin_next, cmp_eq, cmp_ne, cmp_lt, cmp_le, cmp_gt, cmp_ge, cmp_in, cmp_notIn, cmp_leS, cmp_ltS, cmp_is, cmp_isNot, in_str, eqQ_int, eqQ_str, add_int, sub_int, add_lst, add_tup, add_str, idx_lst, idx_tup, idx_str, tru_bl, tru_int, tru_lst, tru_tup, tru_str, tru_non, len_lst, len_tup, len_str, bi_int, bi_all, bi_any, bi_tuple, seq_lst, seq_tup, seq_str, tst_nil, tst_c, map_some, map_ite, isi_tup_t, isi_str_t, wipe_nil, wipe_cons, F_queries_is_deep_test, S_queries_is_deep_test, con_3, con_4, con_6, con_8, getIx_0, inQ_kinds _ nx, eqQ_kind _ nx, hA, hW1, hN, hT, hV, hP, hI, takes, len_ne0, len_beq0, -List.map_cons, -List.map_nil]
              · have ih := IH d (k + 1) a rfl (okDs_mem hr _ List.mem_cons_self)
                rw [show k + 1 + 2 * d + 1 + 1 + 1 = k + 2 * d + 1 + 1 + 1 + 1 by omega] at ih
                simp [ev, evs, evI, evAnd, evOr, ex, start, E.isNil, setTg, bind_ok, bind_exc, bind_bad, bind_ite, bind_bind, noexc_ok, lift_some, lift_none, lift_ite, fin_ret, fin_next, cmp_eq, cmp_ne, cmp_lt, cmp_le, cmp_gt, cmp_ge, cmp_in, cmp_notIn, cmp_leS, cmp_ltS, cmp_is, cmp_isNot, in_str, eqQ_int, eqQ_str, add_int, sub_int, add_lst, add_tup, add_str, idx_lst, idx_tup, idx_str, tru_bl, tru_int, tru_lst, tru_tup, tru_str, tru_non, len_lst, len_tup, len_str, bi_int, bi_all, bi_any, bi_tuple, seq_lst, seq_tup, seq_str, tst_nil, tst_c, map_some, map_ite, isi_tup_t, isi_str_t, wipe_nil, wipe_cons, F_queries_is_deep_test, S_queries_is_deep_test, con_3, con_4, con_6, con_8, getIx_0, getIx_1, inQ_kinds _ nx, eqQ_kind _ nx, hA, hW1, hN, hT, hV, hP, hI, takes, ih, len_ne0, len_beq0, -List.map_cons, -List.map_nil]
              · have e2 : ((r.length : Int) + 1 + 1 + 1 = 2) = False := by apply eq_false; omega
                have e3 : ((r.length : Int) + 1 + 1 + 1 == 2) = false := by simp [ev, evs, evI, evAnd, evOr, ex, start, E.isNil, setTg, bind_ok, bind_exc, bind_bad, bind_ite, bind_bind, noexc_ok, lift_some, lift_none, lift_ite, fin_ret, fin_next, cmp_eq, cmp_ne, cmp_lt, cmp_le, cmp_gt, cmp_ge, cmp_in, cmp_notIn, cmp_leS, cmp_ltS, cmp_is, cmp_isNot, in_str, eqQ_int, eqQ_str, add_int, sub_int, add_lst, add_tup, add_str, idx_lst, idx_tup, idx_str, tru_bl, tru_int, tru_lst, tru_tup, tru_str, tru_non, len_lst, len_tup, len_str, bi_int, bi_all, bi_any, bi_tuple, seq_lst, seq_tup, seq_str, tst_nil, tst_c, map_some, map_ite, isi_tup_t, isi_str_t, wipe_nil, wipe_cons]; omega
                simp [ev, evs, evI, evAnd, evOr, ex, start, E.isNil, setTg, bind_ok, bind_exc, bind_bad, bind_ite, bind_bind, noexc_ok, lift_some, lift_none, lift_ite, fin_ret, fin_next, cmp_eq, cmp_ne, cmp_lt, cmp_le, cmp_gt, cmp_ge, cmp_in, cmp_notIn, cmp_leS, cmp_ltS, cmp_is, cmp_isNot, in_str, eqQ_int, eqQ_str, add_int, sub_int, add_lst, add_tup, add_str, idx_lst, idx_tup, idx_str, tru_bl, tru_int, tru_lst, tru_tup, tru_str, tru_non, len_lst, len_tup, len_str, bi_int, bi_all, bi_any, bi_tuple, seq_lst, seq_tup, seq_str, tst_nil, tst_c, map_some, map_ite, isi_tup_t, isi_str_t, wipe_nil, wipe_cons, F_queries_is_deep_test, S_queries_is_deep_test, con_3, con_4, con_6, con_8, getIx_0, getIx_1, inQ_kinds _ nx, eqQ_kind _ nx, hA, hW1, hN, hT, hV, hP, hI, takes, e2, e3, len_ne0, len_beq0, -List.map_cons, -List.map_nil]
            | false => simp [ev, evs, evI, evAnd, evOr, ex, start, E.isNil, setTg, bind_ok, bind_exc, bind_bad, bind_ite, bind_bind, noexc_ok, lift_some, lift_none, lift_ite, fin_ret, fin_next, cmp_eq, cmp_ne, cmp_lt, cmp_le, cmp_gt, cmp_ge, cmp_in, cmp_notIn, cmp_leS, cmp_ltS, cmp_is, cmp_isNot, in_str, eqQ_int, eqQ_str, add_int, sub_int, add_lst, add_tup, add_str, idx_lst, idx_tup, idx_str, tru_bl, tru_int, tru_lst, tru_tup, tru_str, tru_non, len_lst, len_tup, len_str, bi_int, bi_all, bi_any, bi_tuple, seq_lst, seq_tup, seq_str, tst_nil, tst_c, map_some, map_ite, isi_tup_t, isi_str_t, wipe_nil, wipe_cons, F_queries_is_deep_test, S_queries_is_deep_test, con_3, con_4, con_6, con_8, getIx_0, getIx_1, inQ_kinds _ nx, eqQ_kind _ nx, hA, hW1, hN, hT, hV, hP, hI, takes, len_ne0, len_beq0, -List.map_cons, -List.map_nil]
    | str cs => cases d <;> rfl
    | non => cases d <;> rfl
    | bl b => cases d <;> rfl
    | int i => cases d <;> rfl
    | lst xs => cases d <;> rfl
theorem call_deep (d : Nat) : ∀ (k : Nat) (v : D) (M : Mem), okD v = true → callK GG CC 0 (k + 2 * d + 1 + 1 + 1) I_queries_is_deep_test [v, .int d] M = .ok (D.bl (takes d v)) M := by
  induction d with
  | zero => exact fun k v M hv => deep_step 0 k v M hv fun d' k' y h => by cases h
  | succ d ih =>
    intro k v M hv
    refine deep_step (d + 1) k v M hv fun d' k' y h hy => ?_
    cases h
    exact ih k' y M hy
theorem con_2 : CC 2 = some (.int 6) := rfl
theorem call_is_test {k : Nat} {v : D} {M : Mem} (hv : okD v = true) : callK GG CC 0 (k + 16) I_queries_is_test [v] M = .ok (D.bl (takes 6 v)) M := by
  rw [show k + 16 = k + 15 + 1 by omega, callK_at (fd := F_queries_is_test) rfl rfl]
  have e := call_deep 6 k v M hv
  rw [show k + 2 * 6 + 1 + 1 + 1 = k + 15 by omega] at e
  have e : callK GG CC 0 (k + 15) I_queries_is_deep_test [v, .int 6] M = .ok (D.bl (takes 6 v)) M := e
  simp [ev, evs, evI, evAnd, evOr, ex, start, E.isNil, setTg, bind_ok, bind_exc, bind_bad, bind_ite, bind_bind, noexc_ok, lift_some, lift_none, lift_ite, fin_ret, fin_next, cmp_eq, cmp_ne, cmp_lt, cmp_le, cmp_gt, cmp_ge, cmp_in, cmp_notIn, cmp_leS, cmp_ltS, cmp_is, cmp_isNot, in_str, eqQ_int, eqQ_str, add_int, sub_int, add_lst, add_tup, add_str, idx_lst, idx_tup, idx_str, tru_bl, tru_int, tru_lst, tru_tup, tru_str, tru_non, len_lst, len_tup, len_str, bi_int, bi_all, bi_any, bi_tuple, seq_lst, seq_tup, seq_str, tst_nil, tst_c, map_some, map_ite, isi_tup_t, isi_str_t, wipe_nil, wipe_cons, F_queries_is_test, S_queries_is_test, con_2, e]
end Ev

set_option maxRecDepth 100000
set_option maxHeartbeats 8000000
namespace Ev
/-! ### runs -/
/-- it goes on, with P -/
def Nx (P : Env → Prop) (M : Mem) (r : Res (Fl × Env)) : Prop := ∃ ρ, r = .ok (.next, ρ) M ∧ P ρ
/-- it ends, with G -/
def Post (G : D → Prop) (M : Mem) (r : Res (Fl × Env)) : Prop := ∃ d, r.bind fin = .ok d M ∧ G d
section
variable {C : Ctx} {fu : Nat} {M : Mem} {ρ : Env} {P : Env → Prop} {G : D → Prop} {a b : S}
theorem Post.seq (R : Env → Prop) (h : Nx R M (ex C fu a ρ M)) (k : ∀ ρ', R ρ' → Post G M (ex C fu b ρ' M)) : Post G M (ex C fu (.seq a b) ρ M) := by
  obtain ⟨ρ', e, h⟩ := h
  have e2 : ex C fu (.seq a b) ρ M = ex C fu b ρ' M := by
    show ((ex C fu a ρ M).bind fun r M => match r.1 with | .next => ex C fu b r.2 M | f => .ok (f, r.2) M) = _
    rw [e]
    rfl
  rw [e2]
  exact k ρ' h
theorem Nx.seq (R : Env → Prop) (h : Nx R M (ex C fu a ρ M)) (k : ∀ ρ', R ρ' → Nx P M (ex C fu b ρ' M)) : Nx P M (ex C fu (.seq a b) ρ M) := by
  obtain ⟨ρ', e, h⟩ := h
  have e2 : ex C fu (.seq a b) ρ M = ex C fu b ρ' M := by
    show ((ex C fu a ρ M).bind fun r M => match r.1 with | .next => ex C fu b r.2 M | f => .ok (f, r.2) M) = _
    rw [e]
    rfl
  rw [e2]
  exact k ρ' h
theorem Nx.skip (h : P ρ) : Nx P M (ex C fu .skip ρ M) := ⟨ρ, rfl, h⟩
theorem Nx.set {t : Tg} {e : E} {d : D} {ρ' : Env} (h : ev C e ρ M = .ok d M) (hs : setTg t d ρ = some ρ') (hp : P ρ') : Nx P M (ex C fu (.set t e) ρ M) := by
  refine ⟨ρ', ?_, hp⟩
  show ((ev C e ρ M).bind fun x M => (lift (setTg t x ρ) M).bind fun ρ M => Res.ok (Fl.next, ρ) M) = _
  rw [h, bind_ok, hs]
  rfl
theorem Nx.ite {c : E} {d : D} {k : Bool} (h : ev C c ρ M = .ok d M) (ht : d.tru M = some k) (h1 : k = true → Nx P M (ex C fu a ρ M)) (h2 : k = false → Nx P M (ex C fu b ρ M)) : Nx P M (ex C fu (.ite c a b) ρ M) := by
  have e : ex C fu (.ite c a b) ρ M = if k then ex C fu a ρ M else ex C fu b ρ M := by
    show ((ev C c ρ M).bind fun x M => (lift (x.tru M) M).bind fun k M => if k then ex C fu a ρ M else ex C fu b ρ M) = _
    rw [h, bind_ok, ht]
    rfl
  rw [e]
  cases k with
  | true => exact h1 rfl
  | false => exact h2 rfl
theorem Post.ite {c : E} {d : D} {k : Bool} (h : ev C c ρ M = .ok d M) (ht : d.tru M = some k) (h1 : k = true → Post G M (ex C fu a ρ M)) (h2 : k = false → Post G M (ex C fu b ρ M)) : Post G M (ex C fu (.ite c a b) ρ M) := by
  have e : ex C fu (.ite c a b) ρ M = if k then ex C fu a ρ M else ex C fu b ρ M := by
    show ((ev C c ρ M).bind fun x M => (lift (x.tru M) M).bind fun k M => if k then ex C fu a ρ M else ex C fu b ρ M) = _
    rw [h, bind_ok, ht]
    rfl
  rw [e]
  cases k with
  | true => exact h1 rfl
  | false => exact h2 rfl
/-- if c: return, then more -/
theorem Post.iteSeq {c : E} {d : D} {k : Bool} {r : S} (h : ev C c ρ M = .ok d M) (ht : d.tru M = some k) (h1 : k = true → Post G M (ex C fu (.seq a r) ρ M)) (h2 : k = false → Post G M (ex C fu (.seq b r) ρ M)) : Post G M (ex C fu (.seq (.ite c a b) r) ρ M) := by
  have e : ex C fu (.ite c a b) ρ M = if k then ex C fu a ρ M else ex C fu b ρ M := by
    show ((ev C c ρ M).bind fun x M => (lift (x.tru M) M).bind fun k M => if k then ex C fu a ρ M else ex C fu b ρ M) = _
    rw [h, bind_ok, ht]
    rfl
  have e2 : ex C fu (.seq (.ite c a b) r) ρ M = if k then ex C fu (.seq a r) ρ M else ex C fu (.seq b r) ρ M := by
    show ((ex C fu (.ite c a b) ρ M).bind fun q M => match q.1 with | .next => ex C fu r q.2 M | f => .ok (f, q.2) M) = _
    rw [e]
    cases k <;> rfl
  rw [e2]
  cases k with
  | true => exact h1 rfl
  | false => exact h2 rfl
theorem Post.ret {e : E} {d : D} (h : ev C e ρ M = .ok d M) (g : G d) : Post G M (ex C fu (.ret e) ρ M) := by
  refine ⟨d, ?_, g⟩
  show (((ev C e ρ M).bind fun x M => .ok (.ret x, ρ) M).bind fin) = _
  rw [h]
  rfl
/-- return behind which nothing counts -/
theorem Post.retSeq {e : E} {d : D} {r s : S} (h : ev C e ρ M = .ok d M) (g : G d) : Post G M (ex C fu (.seq (.ret e) r) ρ M) := by
  refine ⟨d, ?_, g⟩
  show ((((ev C e ρ M).bind fun x M => Res.ok (Fl.ret x, ρ) M).bind fun q M => match q.1 with | .next => ex C fu r q.2 M | f => .ok (f, q.2) M).bind fin) = _
  rw [h]
  rfl
theorem Post.retSeq2 {e : E} {d : D} {r s : S} (h : ev C e ρ M = .ok d M) (g : G d) : Post G M (ex C fu (.seq (.seq (.ret e) r) s) ρ M) := by
  refine ⟨d, ?_, g⟩
  show (((((ev C e ρ M).bind fun x M => Res.ok (Fl.ret x, ρ) M).bind fun q M => match q.1 with | .next => ex C fu r q.2 M | f => .ok (f, q.2) M).bind fun q M => match q.1 with | .next => ex C fu s q.2 M | f => .ok (f, q.2) M).bind fin) = _
  rw [h]
  rfl
theorem Post.skipSeq {r : S} (h : Post G M (ex C fu r ρ M)) : Post G M (ex C fu (.seq .skip r) ρ M) := h
theorem Nx.for_ {t : Tg} {it : E} {xs : List D} (R : Nat → Env → Prop) (hi : evI C it ρ M = .ok xs M) (h0 : R 0 ρ) (hs : ∀ j x ρ, xs[j]? = some x → R j ρ → ∃ ρ1, setTg t x ρ = some ρ1 ∧ Nx (R (j + 1)) M (ex C fu b ρ1 M)) (hp : ∀ ρ, R xs.length ρ → P ρ) : Nx P M (ex C fu (.for_ t it b) ρ M) := by
  obtain ⟨ρ', e, h⟩ := forL_inv (f := fun x ρ M => (lift (setTg t x ρ) M).bind fun ρ M => ex C fu b ρ M) (M := M) R xs 0 ρ h0 fun j x ρ hx hr => by
    rw [Nat.zero_add] at hr ⊢
    obtain ⟨ρ1, e1, ρ2, e2, h2⟩ := hs j x ρ hx hr
    exact ⟨ρ2, by rw [e1, lift_some, bind_ok, e2], h2⟩
  rw [Nat.zero_add] at h
  refine ⟨ρ', ?_, hp _ h⟩
  show ((evI C it ρ M).bind fun xs M => forL (fun x ρ M => (lift (setTg t x ρ) M).bind fun ρ M => ex C fu b ρ M) xs ρ M) = _
  rw [hi, bind_ok, e]
end
/-! ### numbers -/
def isN (x : D) : Prop := ∃ n : Nat, x = .int n
theorem fmod_nat (i : Int) (n : Nat) (h : 0 < n) : ∃ m : Nat, i.fmod n = m ∧ m < n := by
  have h1 : (0 : Int) ≤ i % n := Int.emod_nonneg i (by omega)
  have h2 : i % n < n := Int.emod_lt_of_pos i (by omega)
  refine ⟨(i % n).toNat, ?_, by omega⟩
  rw [Int.fmod_eq_emod_of_nonneg i (by omega)]
  omega
theorem range_at {n j : Nat} {x : D} (h : (rangeL 0 n)[j]? = some x) : x = .int j ∧ j < n := by
  unfold rangeL at h
  rw [List.getElem?_map] at h
  cases e : (List.range ((n : Int) - 0).toNat)[j]? with
  | none => rw [e] at h; cases h
  | some i =>
    rw [e] at h
    have h1 := List.getElem?_eq_some_iff.mp e
    obtain ⟨h2, h3⟩ := h1
    simp [ev, evs, evI, evAnd, evOr, ex, start, E.isNil, setTg, bind_ok, bind_exc, bind_bad, bind_ite, bind_bind, noexc_ok, lift_some, lift_none, lift_ite, fin_ret, fin_next, cmp_eq, cmp_ne, cmp_lt, cmp_le, cmp_gt, cmp_ge, cmp_in, cmp_notIn, cmp_leS, cmp_ltS, cmp_is, cmp_isNot, in_str, eqQ_int, eqQ_str, add_int, sub_int, add_lst, add_tup, add_str, idx_lst, idx_tup, idx_str, tru_bl, tru_int, tru_lst, tru_tup, tru_str, tru_non, len_lst, len_tup, len_str, bi_int, bi_all, bi_any, bi_tuple, seq_lst, seq_tup, seq_str, tst_nil, tst_c, map_some, map_ite, isi_tup_t, isi_str_t, wipe_nil, wipe_cons] at h2 h3
    subst h3
    have h : D.int (0 + (j : Int)) = x := Option.some.inj h
    rw [← h]
    exact ⟨by simp [ev, evs, evI, evAnd, evOr, ex, start, E.isNil, setTg, bind_ok, bind_exc, bind_bad, bind_ite, bind_bind, noexc_ok, lift_some, lift_none, lift_ite, fin_ret, fin_next, cmp_eq, cmp_ne, cmp_lt, cmp_le, cmp_gt, cmp_ge, cmp_in, cmp_notIn, cmp_leS, cmp_ltS, cmp_is, cmp_isNot, in_str, eqQ_int, eqQ_str, add_int, sub_int, add_lst, add_tup, add_str, idx_lst, idx_tup, idx_str, tru_bl, tru_int, tru_lst, tru_tup, tru_str, tru_non, len_lst, len_tup, len_str, bi_int, bi_all, bi_any, bi_tuple, seq_lst, seq_tup, seq_str, tst_nil, tst_c, map_some, map_ite, isi_tup_t, isi_str_t, wipe_nil, wipe_cons], by omega⟩
theorem range_len (n : Nat) : (rangeL 0 n).length = n := by simp [ev, evs, evI, evAnd, evOr, ex, start, E.isNil, setTg, bind_ok, bind_exc, bind_bad, bind_ite, bind_bind, noexc_ok, lift_some, lift_none, lift_ite, fin_ret, fin_next, cmp_eq, cmp_ne, cmp_lt, cmp_le, cmp_gt, cmp_ge, cmp_in, cmp_notIn, cmp_leS, cmp_ltS, cmp_is, cmp_isNot, in_str, eqQ_int, eqQ_str, add_int, sub_int, add_lst, add_tup, add_str, idx_lst, idx_tup, idx_str, tru_bl, tru_int, tru_lst, tru_tup, tru_str, tru_non, len_lst, len_tup, len_str, bi_int, bi_all, bi_any, bi_tuple, seq_lst, seq_tup, seq_str, tst_nil, tst_c, map_some, map_ite, isi_tup_t, isi_str_t, wipe_nil, wipe_cons, rangeL]
theorem mulOk_r {i j : Int} (h : j.natAbs < 18446744073709551616) : mulOk i j = true := by simp [ev, evs, evI, evAnd, evOr, ex, start, E.isNil, setTg, bind_ok, bind_exc, bind_bad, bind_ite, bind_bind, noexc_ok, lift_some, lift_none, lift_ite, fin_ret, fin_next, cmp_eq, cmp_ne, cmp_lt, cmp_le, cmp_gt, cmp_ge, cmp_in, cmp_notIn, cmp_leS, cmp_ltS, cmp_is, cmp_isNot, in_str, eqQ_int, eqQ_str, add_int, sub_int, add_lst, add_tup, add_str, idx_lst, idx_tup, idx_str, tru_bl, tru_int, tru_lst, tru_tup, tru_str, tru_non, len_lst, len_tup, len_str, bi_int, bi_all, bi_any, bi_tuple, seq_lst, seq_tup, seq_str, tst_nil, tst_c, map_some, map_ite, isi_tup_t, isi_str_t, wipe_nil, wipe_cons, mulOk, h]
theorem call_draws {k : Nat} {c : Int} {M : Mem} : ∃ xs, callK GG CC 0 (k + 1) I_l_law_draws [.int c, .int 24] M = .ok (.lst xs) M ∧ xs.length = 24 ∧ ∀ x ∈ xs, isN x := by
  rw [callK_at (fd := F_l_law_draws) rfl rfl]
  suffices h : Post (fun d => ∃ xs, d = .lst xs ∧ xs.length = 24 ∧ ∀ x ∈ xs, isN x) M (ex ⟨CC, callK GG CC 0 k⟩ 0 S_l_law_draws [.val (.int c), .val (.int 24), .no, .no, .no, .no] M) by
    obtain ⟨d, e, xs, rfl, h1, h2⟩ := h
    exact ⟨xs, e, h1, h2⟩
  unfold S_l_law_draws
  refine Post.seq (fun ρ => ρ = [.val (.int c), .val (.int 24), .own [], .no, .no, .no]) ⟨_, rfl, rfl⟩ ?_
  rintro _ rfl
  refine Post.seq (fun ρ => ρ = [.val (.int c), .val (.int 24), .own [], .val (.int c), .no, .no]) ⟨_, rfl, rfl⟩ ?_
  rintro _ rfl
  refine Post.seq (fun ρ => ∃ xs r kk, ρ = [.val (.int c), .val (.int 24), .own xs, .val (.int r), .no, kk] ∧ xs.length ≤ 24 ∧ ∀ x ∈ xs, isN x) ?_ ?_
  · refine Nx.ite (d := .bl (decide ((1000000000000000000 : Int) ≤ c))) ?_ rfl (fun _ => ?_) (fun _ => ⟨_, rfl, [], c, .no, rfl, by simp [ev, evs, evI, evAnd, evOr, ex, start, E.isNil, setTg, bind_ok, bind_exc, bind_bad, bind_ite, bind_bind, noexc_ok, lift_some, lift_none, lift_ite, fin_ret, fin_next, cmp_eq, cmp_ne, cmp_lt, cmp_le, cmp_gt, cmp_ge, cmp_in, cmp_notIn, cmp_leS, cmp_ltS, cmp_is, cmp_isNot, in_str, eqQ_int, eqQ_str, add_int, sub_int, add_lst, add_tup, add_str, idx_lst, idx_tup, idx_str, tru_bl, tru_int, tru_lst, tru_tup, tru_str, tru_non, len_lst, len_tup, len_str, bi_int, bi_all, bi_any, bi_tuple, seq_lst, seq_tup, seq_str, tst_nil, tst_c, map_some, map_ite, isi_tup_t, isi_str_t, wipe_nil, wipe_cons], by simp [ev, evs, evI, evAnd, evOr, ex, start, E.isNil, setTg, bind_ok, bind_exc, bind_bad, bind_ite, bind_bind, noexc_ok, lift_some, lift_none, lift_ite, fin_ret, fin_next, cmp_eq, cmp_ne, cmp_lt, cmp_le, cmp_gt, cmp_ge, cmp_in, cmp_notIn, cmp_leS, cmp_ltS, cmp_is, cmp_isNot, in_str, eqQ_int, eqQ_str, add_int, sub_int, add_lst, add_tup, add_str, idx_lst, idx_tup, idx_str, tru_bl, tru_int, tru_lst, tru_tup, tru_str, tru_non, len_lst, len_tup, len_str, bi_int, bi_all, bi_any, bi_tuple, seq_lst, seq_tup, seq_str, tst_nil, tst_c, map_some, map_ite, isi_tup_t, isi_str_t, wipe_nil, wipe_cons]⟩)
    · simp [ev, evs, evI, evAnd, evOr, ex, start, E.isNil, setTg, bind_ok, bind_exc, bind_bad, bind_ite, bind_bind, noexc_ok, lift_some, lift_none, lift_ite, fin_ret, fin_next, cmp_eq, cmp_ne, cmp_lt, cmp_le, cmp_gt, cmp_ge, cmp_in, cmp_notIn, cmp_leS, cmp_ltS, cmp_is, cmp_isNot, in_str, eqQ_int, eqQ_str, add_int, sub_int, add_lst, add_tup, add_str, idx_lst, idx_tup, idx_str, tru_bl, tru_int, tru_lst, tru_tup, tru_str, tru_non, len_lst, len_tup, len_str, bi_int, bi_all, bi_any, bi_tuple, seq_lst, seq_tup, seq_str, tst_nil, tst_c, map_some, map_ite, isi_tup_t, isi_str_t, wipe_nil, wipe_cons, binQ]
    · refine Nx.seq (fun ρ => ∃ xs r kk, ρ = [.val (.int c), .val (.int 24), .own xs, .val (.int r), .no, kk] ∧ xs.length ≤ 24 ∧ ∀ x ∈ xs, isN x) ?_ (fun ρ h => Nx.skip h)
      refine Nx.for_ (xs := rangeL 0 (24 : Nat)) (fun j ρ => ∃ xs r kk, ρ = [.val (.int c), .val (.int 24), .own xs, .val (.int r), .no, kk] ∧ xs.length ≤ j ∧ ∀ x ∈ xs, isN x) rfl ⟨[], c, .no, rfl, by simp [ev, evs, evI, evAnd, evOr, ex, start, E.isNil, setTg, bind_ok, bind_exc, bind_bad, bind_ite, bind_bind, noexc_ok, lift_some, lift_none, lift_ite, fin_ret, fin_next, cmp_eq, cmp_ne, cmp_lt, cmp_le, cmp_gt, cmp_ge, cmp_in, cmp_notIn, cmp_leS, cmp_ltS, cmp_is, cmp_isNot, in_str, eqQ_int, eqQ_str, add_int, sub_int, add_lst, add_tup, add_str, idx_lst, idx_tup, idx_str, tru_bl, tru_int, tru_lst, tru_tup, tru_str, tru_non, len_lst, len_tup, len_str, bi_int, bi_all, bi_any, bi_tuple, seq_lst, seq_tup, seq_str, tst_nil, tst_c, map_some, map_ite, isi_tup_t, isi_str_t, wipe_nil, wipe_cons], by simp [ev, evs, evI, evAnd, evOr, ex, start, E.isNil, setTg, bind_ok, bind_exc, bind_bad, bind_ite, bind_bind, noexc_ok, lift_some, lift_none, lift_ite, fin_ret, fin_next, cmp_eq, cmp_ne, cmp_lt, cmp_le, cmp_gt, cmp_ge, cmp_in, cmp_notIn, cmp_leS, cmp_ltS, cmp_is, cmp_isNot, in_str, eqQ_int, eqQ_str, add_int, sub_int, add_lst, add_tup, add_str, idx_lst, idx_tup, idx_str, tru_bl, tru_int, tru_lst, tru_tup, tru_str, tru_non, len_lst, len_tup, len_str, bi_int, bi_all, bi_any, bi_tuple, seq_lst, seq_tup, seq_str, tst_nil, tst_c, map_some, map_ite, isi_tup_t, isi_str_t, wipe_nil, wipe_cons]⟩ ?_ (fun ρ h => by rw [range_len] at h; exact h)
      rintro j x ρ hx ⟨xs, r, kk, rfl, h1, h2⟩
      obtain ⟨rfl, hj⟩ := range_at hx
      refine ⟨_, rfl, ?_⟩
      refine Nx.seq (fun ρ => ∃ xs r kk, ρ = [.val (.int c), .val (.int 24), .own xs, .val (.int r), .no, kk] ∧ xs.length ≤ j + 1 ∧ ∀ x ∈ xs, isN x) ?_ (fun ρ h => Nx.skip h)
      refine Nx.ite (d := .bl (decide ((0 : Int) < r))) rfl rfl (fun _ => ?_) (fun _ => ⟨_, rfl, xs, r, .val (.int j), rfl, by omega, h2⟩)
      obtain ⟨m, e, hm⟩ := fmod_nat r 1000 (by omega)
      refine Nx.seq (fun ρ => ρ = [.val (.int c), .val (.int 24), .own (xs ++ [.int m]), .val (.int r), .no, .val (.int j)]) ⟨_, ?_, rfl⟩ ?_
      · have hb : xs.length < big := Nat.lt_of_lt_of_le (by omega : xs.length < 100) (by decide)
        have e : r.fmod 1000 = m := e
        simp [ev, evs, evI, evAnd, evOr, ex, start, E.isNil, setTg, bind_ok, bind_exc, bind_bad, bind_ite, bind_bind, noexc_ok, lift_some, lift_none, lift_ite, fin_ret, fin_next, cmp_eq, cmp_ne, cmp_lt, cmp_le, cmp_gt, cmp_ge, cmp_in, cmp_notIn, cmp_leS, cmp_ltS, cmp_is, cmp_isNot, in_str, eqQ_int, eqQ_str, add_int, sub_int, add_lst, add_tup, add_str, idx_lst, idx_tup, idx_str, tru_bl, tru_int, tru_lst, tru_tup, tru_str, tru_non, len_lst, len_tup, len_str, bi_int, bi_all, bi_any, bi_tuple, seq_lst, seq_tup, seq_str, tst_nil, tst_c, map_some, map_ite, isi_tup_t, isi_str_t, wipe_nil, wipe_cons, ownOf, mod_int, e, hb]
      · rintro _ rfl
        refine Nx.seq (fun ρ => ρ = [.val (.int c), .val (.int 24), .own (xs ++ [.int m]), .val (.int (r.fdiv 1000)), .no, .val (.int j)]) ⟨_, ?_, rfl⟩ ?_
        · simp [ev, evs, evI, evAnd, evOr, ex, start, E.isNil, setTg, bind_ok, bind_exc, bind_bad, bind_ite, bind_bind, noexc_ok, lift_some, lift_none, lift_ite, fin_ret, fin_next, cmp_eq, cmp_ne, cmp_lt, cmp_le, cmp_gt, cmp_ge, cmp_in, cmp_notIn, cmp_leS, cmp_ltS, cmp_is, cmp_isNot, in_str, eqQ_int, eqQ_str, add_int, sub_int, add_lst, add_tup, add_str, idx_lst, idx_tup, idx_str, tru_bl, tru_int, tru_lst, tru_tup, tru_str, tru_non, len_lst, len_tup, len_str, bi_int, bi_all, bi_any, bi_tuple, seq_lst, seq_tup, seq_str, tst_nil, tst_c, map_some, map_ite, isi_tup_t, isi_str_t, wipe_nil, wipe_cons, fdiv_int]
        · rintro _ rfl
          refine Nx.skip ⟨_, _, _, rfl, by simp [ev, evs, evI, evAnd, evOr, ex, start, E.isNil, setTg, bind_ok, bind_exc, bind_bad, bind_ite, bind_bind, noexc_ok, lift_some, lift_none, lift_ite, fin_ret, fin_next, cmp_eq, cmp_ne, cmp_lt, cmp_le, cmp_gt, cmp_ge, cmp_in, cmp_notIn, cmp_leS, cmp_ltS, cmp_is, cmp_isNot, in_str, eqQ_int, eqQ_str, add_int, sub_int, add_lst, add_tup, add_str, idx_lst, idx_tup, idx_str, tru_bl, tru_int, tru_lst, tru_tup, tru_str, tru_non, len_lst, len_tup, len_str, bi_int, bi_all, bi_any, bi_tuple, seq_lst, seq_tup, seq_str, tst_nil, tst_c, map_some, map_ite, isi_tup_t, isi_str_t, wipe_nil, wipe_cons]; omega, fun x hx => ?_⟩
          rcases List.mem_append.mp hx with hx | hx
          · exact h2 x hx
          · exact ⟨m, by simpa using hx⟩
  rintro _ ⟨xs, r, kk, rfl, h1, h2⟩
  refine Post.seq (fun ρ => ∃ s, ρ = [.val (.int c), .val (.int 24), .own xs, .val (.int r), .val (.int s), kk]) ⟨_, ?_, ((c * 48271 + 11).fmod 2147483647), rfl⟩ ?_
  · simp [ev, evs, evI, evAnd, evOr, ex, start, E.isNil, setTg, bind_ok, bind_exc, bind_bad, bind_ite, bind_bind, noexc_ok, lift_some, lift_none, lift_ite, fin_ret, fin_next, cmp_eq, cmp_ne, cmp_lt, cmp_le, cmp_gt, cmp_ge, cmp_in, cmp_notIn, cmp_leS, cmp_ltS, cmp_is, cmp_isNot, in_str, eqQ_int, eqQ_str, add_int, sub_int, add_lst, add_tup, add_str, idx_lst, idx_tup, idx_str, tru_bl, tru_int, tru_lst, tru_tup, tru_str, tru_non, len_lst, len_tup, len_str, bi_int, bi_all, bi_any, bi_tuple, seq_lst, seq_tup, seq_str, tst_nil, tst_c, map_some, map_ite, isi_tup_t, isi_str_t, wipe_nil, wipe_cons, mod_int, mul_int, mulOk_r]
  rintro _ ⟨s, rfl⟩
  refine Post.seq (fun ρ => ∃ xs s kk, ρ = [.val (.int c), .val (.int 24), .own xs, .val (.int r), .val (.int s), kk] ∧ xs.length = 24 ∧ ∀ x ∈ xs, isN x) ?_ ?_
  · refine Nx.for_ (xs := rangeL 0 (24 : Nat)) (fun j ρ => ∃ xs s kk, ρ = [.val (.int c), .val (.int 24), .own xs, .val (.int r), .val (.int s), kk] ∧ j ≤ xs.length ∧ xs.length ≤ 24 ∧ ∀ x ∈ xs, isN x) rfl ⟨xs, s, kk, rfl, by simp [ev, evs, evI, evAnd, evOr, ex, start, E.isNil, setTg, bind_ok, bind_exc, bind_bad, bind_ite, bind_bind, noexc_ok, lift_some, lift_none, lift_ite, fin_ret, fin_next, cmp_eq, cmp_ne, cmp_lt, cmp_le, cmp_gt, cmp_ge, cmp_in, cmp_notIn, cmp_leS, cmp_ltS, cmp_is, cmp_isNot, in_str, eqQ_int, eqQ_str, add_int, sub_int, add_lst, add_tup, add_str, idx_lst, idx_tup, idx_str, tru_bl, tru_int, tru_lst, tru_tup, tru_str, tru_non, len_lst, len_tup, len_str, bi_int, bi_all, bi_any, bi_tuple, seq_lst, seq_tup, seq_str, tst_nil, tst_c, map_some, map_ite, isi_tup_t, isi_str_t, wipe_nil, wipe_cons], h1, h2⟩ ?_ (fun ρ h => by
      rw [range_len] at h
      obtain ⟨xs, s, kk, e, g1, g2, g3⟩ := h
      exact ⟨xs, s, kk, e, by omega, g3⟩)
    rintro j x ρ hx ⟨xs, s, kk, rfl, h1, h2, h3⟩
    obtain ⟨rfl, hj⟩ := range_at hx
    refine ⟨_, rfl, ?_⟩
    refine Nx.seq (fun ρ => ∃ s, ρ = [.val (.int c), .val (.int 24), .own xs, .val (.int r), .val (.int s), .val (.int j)]) ⟨_, ?_, ((s * 48271 + j * 69621 + 7).fmod 2147483647), rfl⟩ ?_
    · simp [ev, evs, evI, evAnd, evOr, ex, start, E.isNil, setTg, bind_ok, bind_exc, bind_bad, bind_ite, bind_bind, noexc_ok, lift_some, lift_none, lift_ite, fin_ret, fin_next, cmp_eq, cmp_ne, cmp_lt, cmp_le, cmp_gt, cmp_ge, cmp_in, cmp_notIn, cmp_leS, cmp_ltS, cmp_is, cmp_isNot, in_str, eqQ_int, eqQ_str, add_int, sub_int, add_lst, add_tup, add_str, idx_lst, idx_tup, idx_str, tru_bl, tru_int, tru_lst, tru_tup, tru_str, tru_non, len_lst, len_tup, len_str, bi_int, bi_all, bi_any, bi_tuple, seq_lst, seq_tup, seq_str, tst_nil, tst_c, map_some, map_ite, isi_tup_t, isi_str_t, wipe_nil, wipe_cons, mod_int, mul_int, mulOk_r]
    rintro _ ⟨s, rfl⟩
    refine Nx.seq (fun ρ => ∃ xs s kk, ρ = [.val (.int c), .val (.int 24), .own xs, .val (.int r), .val (.int s), kk] ∧ j + 1 ≤ xs.length ∧ xs.length ≤ 24 ∧ ∀ x ∈ xs, isN x) ?_ (fun ρ h => Nx.skip h)
    refine Nx.ite (d := .bl (decide ((xs.length : Int) < 24))) rfl rfl (fun h => ?_) (fun h => ⟨_, rfl, xs, s, _, rfl, ?_, h2, h3⟩)
    · have h : xs.length < 24 := by
        have h := of_decide_eq_true h
        omega
      obtain ⟨m, e, hm⟩ := fmod_nat ((s * 69621 + 5).fmod 2147483629) 1000 (by omega)
      refine Nx.seq (fun ρ => ρ = [.val (.int c), .val (.int 24), .own (xs ++ [.int m]), .val (.int r), .val (.int s), .val (.int j)]) ⟨_, ?_, rfl⟩ ?_
      · have hb : xs.length < big := Nat.lt_of_lt_of_le (by omega : xs.length < 100) (by decide)
        have e : ((s * 69621 + 5).fmod 2147483629).fmod 1000 = m := e
        simp [ev, evs, evI, evAnd, evOr, ex, start, E.isNil, setTg, bind_ok, bind_exc, bind_bad, bind_ite, bind_bind, noexc_ok, lift_some, lift_none, lift_ite, fin_ret, fin_next, cmp_eq, cmp_ne, cmp_lt, cmp_le, cmp_gt, cmp_ge, cmp_in, cmp_notIn, cmp_leS, cmp_ltS, cmp_is, cmp_isNot, in_str, eqQ_int, eqQ_str, add_int, sub_int, add_lst, add_tup, add_str, idx_lst, idx_tup, idx_str, tru_bl, tru_int, tru_lst, tru_tup, tru_str, tru_non, len_lst, len_tup, len_str, bi_int, bi_all, bi_any, bi_tuple, seq_lst, seq_tup, seq_str, tst_nil, tst_c, map_some, map_ite, isi_tup_t, isi_str_t, wipe_nil, wipe_cons, ownOf, mod_int, mul_int, mulOk_r, e, hb]
      · rintro _ rfl
        refine Nx.skip ⟨_, s, _, rfl, by simp [ev, evs, evI, evAnd, evOr, ex, start, E.isNil, setTg, bind_ok, bind_exc, bind_bad, bind_ite, bind_bind, noexc_ok, lift_some, lift_none, lift_ite, fin_ret, fin_next, cmp_eq, cmp_ne, cmp_lt, cmp_le, cmp_gt, cmp_ge, cmp_in, cmp_notIn, cmp_leS, cmp_ltS, cmp_is, cmp_isNot, in_str, eqQ_int, eqQ_str, add_int, sub_int, add_lst, add_tup, add_str, idx_lst, idx_tup, idx_str, tru_bl, tru_int, tru_lst, tru_tup, tru_str, tru_non, len_lst, len_tup, len_str, bi_int, bi_all, bi_any, bi_tuple, seq_lst, seq_tup, seq_str, tst_nil, tst_c, map_some, map_ite, isi_tup_t, isi_str_t, wipe_nil, wipe_cons]; omega, by simp [ev, evs, evI, evAnd, evOr, ex, start, E.isNil, setTg, bind_ok, bind_exc, bind_bad, bind_ite, bind_bind, noexc_ok, lift_some, lift_none, lift_ite, fin_ret, fin_next, cmp_eq, cmp_ne, cmp_lt, cmp_le, cmp_gt, cmp_ge, cmp_in, cmp_notIn, cmp_leS, cmp_ltS, cmp_is, cmp_isNot, in_str, eqQ_int, eqQ_str, add_int, sub_int, add_lst, add_tup, add_str, idx_lst, idx_tup, idx_str, tru_bl, tru_int, tru_lst, tru_tup, tru_str, tru_non, len_lst, len_tup, len_str, bi_int, bi_all, bi_any, bi_tuple, seq_lst, seq_tup, seq_str, tst_nil, tst_c, map_some, map_ite, isi_tup_t, isi_str_t, wipe_nil, wipe_cons]; omega, fun x hx => ?_⟩
        rcases List.mem_append.mp hx with hx | hx
        · exact h3 x hx
        · exact ⟨m, by simpa using hx⟩
    · have h := of_decide_eq_false h
      omega
  rintro _ ⟨xs, s, kk, rfl, h1, h2⟩
  refine Post.seq (fun ρ => ρ = [.val (.int c), .val (.int 24), .val (.lst xs), .val (.int r), .val (.int s), kk]) ⟨_, rfl, rfl⟩ ?_
  rintro _ rfl
  exact Post.retSeq (s := .skip) rfl ⟨xs, rfl, h1, h2⟩
end Ev

set_option maxRecDepth 100000
set_option maxHeartbeats 8000000
namespace Ev
theorem seq_assoc {C : Ctx} {fu : Nat} {a b c : S} {ρ : Env} {M : Mem} : ex C fu (.seq (.seq a b) c) ρ M = ex C fu (.seq a (.seq b c)) ρ M := by
  show (((ex C fu a ρ M).bind fun r M => match r.1 with | .next => ex C fu b r.2 M | f => Res.ok (f, r.2) M).bind fun r M => match r.1 with | .next => ex C fu c r.2 M | f => Res.ok (f, r.2) M) = (ex C fu a ρ M).bind fun r M => match r.1 with | .next => ((ex C fu b r.2 M).bind fun r M => match r.1 with | .next => ex C fu c r.2 M | f => Res.ok (f, r.2) M) | f => Res.ok (f, r.2) M
  cases ex C fu a ρ M with
  | ok q M' =>
    obtain ⟨fl, ρ'⟩ := q
    cases fl <;> rfl
  | exc c d M' => rfl
  | bad => rfl
theorem Post.assoc {C : Ctx} {fu : Nat} {a b c : S} {ρ : Env} {M : Mem} {G : D → Prop} (h : Post G M (ex C fu (.seq a (.seq b c)) ρ M)) : Post G M (ex C fu (.seq (.seq a b) c) ρ M) := by
  rw [seq_assoc]
  exact h
/-- 24 numbers -/
def Dr (xs : List D) : Prop := xs.length = 24 ∧ ∀ x ∈ xs, isN x
theorem Dr.at_ {xs : List D} (h : Dr xs) {i : Int} (n : Nat) (hi : i = n) (hn : n < 24) : ∃ m : Nat, getIx xs i = some (.int m) := by
  obtain ⟨h1, h2⟩ := h
  have hl : n < xs.length := by omega
  obtain ⟨m, e⟩ := h2 xs[n] (List.getElem_mem hl)
  exact ⟨m, by rw [getIx_nat hi hl, List.getElem?_eq_getElem hl, e]⟩
theorem Dr.rot {xs : List D} (h : Dr xs) (n : Nat) : Dr (xs.drop n ++ xs.take n) := by
  obtain ⟨h1, h2⟩ := h
  refine ⟨by simp [ev, evs, evI, evAnd, evOr, ex, start, E.isNil, setTg, bind_ok, bind_exc, bind_bad, bind_ite, bind_bind, noexc_ok, lift_some, lift_none, lift_ite, fin_ret, fin_next, cmp_eq, cmp_ne, cmp_lt, cmp_le, cmp_gt, cmp_ge, cmp_in, cmp_notIn, cmp_leS, cmp_ltS, cmp_is, cmp_isNot, in_str, eqQ_int, eqQ_str, add_int, sub_int, add_lst, add_tup, add_str, idx_lst, idx_tup, idx_str, tru_bl, tru_int, tru_lst, tru_tup, tru_str, tru_non, len_lst, len_tup, len_str, bi_int, bi_all, bi_any, bi_tuple, seq_lst, seq_tup, seq_str, tst_nil, tst_c, map_some, map_ite, isi_tup_t, isi_str_t, wipe_nil, wipe_cons]; omega, fun x hx => ?_⟩
  rcases List.mem_append.mp hx with hx | hx
  · exact h2 x (List.mem_of_mem_drop hx)
  · exact h2 x (List.mem_of_mem_take hx)
theorem cut_lo {xs : List D} (n : Nat) (h : n ≤ xs.length) : cut xs (some (n : Int)) none = xs.drop n := by
  have e : ¬ ((n : Int) < 0) := by omega
  simp [ev, evs, evI, evAnd, evOr, ex, start, E.isNil, setTg, bind_ok, bind_exc, bind_bad, bind_ite, bind_bind, noexc_ok, lift_some, lift_none, lift_ite, fin_ret, fin_next, cmp_eq, cmp_ne, cmp_lt, cmp_le, cmp_gt, cmp_ge, cmp_in, cmp_notIn, cmp_leS, cmp_ltS, cmp_is, cmp_isNot, in_str, eqQ_int, eqQ_str, add_int, sub_int, add_lst, add_tup, add_str, idx_lst, idx_tup, idx_str, tru_bl, tru_int, tru_lst, tru_tup, tru_str, tru_non, len_lst, len_tup, len_str, bi_int, bi_all, bi_any, bi_tuple, seq_lst, seq_tup, seq_str, tst_nil, tst_c, map_some, map_ite, isi_tup_t, isi_str_t, wipe_nil, wipe_cons, cut, slB, e]
  rw [Nat.min_eq_left h]
  exact List.take_of_length_le (by simp [ev, evs, evI, evAnd, evOr, ex, start, E.isNil, setTg, bind_ok, bind_exc, bind_bad, bind_ite, bind_bind, noexc_ok, lift_some, lift_none, lift_ite, fin_ret, fin_next, cmp_eq, cmp_ne, cmp_lt, cmp_le, cmp_gt, cmp_ge, cmp_in, cmp_notIn, cmp_leS, cmp_ltS, cmp_is, cmp_isNot, in_str, eqQ_int, eqQ_str, add_int, sub_int, add_lst, add_tup, add_str, idx_lst, idx_tup, idx_str, tru_bl, tru_int, tru_lst, tru_tup, tru_str, tru_non, len_lst, len_tup, len_str, bi_int, bi_all, bi_any, bi_tuple, seq_lst, seq_tup, seq_str, tst_nil, tst_c, map_some, map_ite, isi_tup_t, isi_str_t, wipe_nil, wipe_cons])
theorem cut_hi {xs : List D} (n : Nat) (h : n ≤ xs.length) : cut xs none (some (n : Int)) = xs.take n := by
  have e : ¬ ((n : Int) < 0) := by omega
  simp [ev, evs, evI, evAnd, evOr, ex, start, E.isNil, setTg, bind_ok, bind_exc, bind_bad, bind_ite, bind_bind, noexc_ok, lift_some, lift_none, lift_ite, fin_ret, fin_next, cmp_eq, cmp_ne, cmp_lt, cmp_le, cmp_gt, cmp_ge, cmp_in, cmp_notIn, cmp_leS, cmp_ltS, cmp_is, cmp_isNot, in_str, eqQ_int, eqQ_str, add_int, sub_int, add_lst, add_tup, add_str, idx_lst, idx_tup, idx_str, tru_bl, tru_int, tru_lst, tru_tup, tru_str, tru_non, len_lst, len_tup, len_str, bi_int, bi_all, bi_any, bi_tuple, seq_lst, seq_tup, seq_str, tst_nil, tst_c, map_some, map_ite, isi_tup_t, isi_str_t, wipe_nil, wipe_cons, cut, slB, e]
/-- an item of a written list -/
theorem pick {α : Type} {xs : List α} {i : Int} (n : Nat) (h : i = n) (hn : n < xs.length) : ∃ x ∈ xs, getIx xs i = some x := by
  exact ⟨xs[n], List.getElem_mem hn, by rw [getIx_nat h hn, List.getElem?_eq_getElem hn]⟩
theorem mod_at {m : Nat} (n : Nat) (h : 0 < n) : binQ .mod (.int (m : Int)) (.int (n : Int)) = some (.int ((m % n : Nat) : Int)) := by
  have e : (n : Int) ≠ 0 := by omega
  rw [mod_int e, Int.fmod_eq_emod_of_nonneg _ (by omega)]
  rfl
theorem all_mem {xs : List D} (h : okDs xs = true) : ∀ x ∈ xs, okD x = true := by
  induction xs with
  | nil => simp [ev, evs, evI, evAnd, evOr, ex, start, E.isNil, setTg, bind_ok, bind_exc, bind_bad, bind_ite, bind_bind, noexc_ok, lift_some, lift_none, lift_ite, fin_ret, fin_next, cmp_eq, cmp_ne, cmp_lt, cmp_le, cmp_gt, cmp_ge, cmp_in, cmp_notIn, cmp_leS, cmp_ltS, cmp_is, cmp_isNot, in_str, eqQ_int, eqQ_str, add_int, sub_int, add_lst, add_tup, add_str, idx_lst, idx_tup, idx_str, tru_bl, tru_int, tru_lst, tru_tup, tru_str, tru_non, len_lst, len_tup, len_str, bi_int, bi_all, bi_any, bi_tuple, seq_lst, seq_tup, seq_str, tst_nil, tst_c, map_some, map_ite, isi_tup_t, isi_str_t, wipe_nil, wipe_cons]
  | cons y ys ih =>
    simp only [okDs, Bool.and_eq_true] at h
    intro x hx
    rcases List.mem_cons.mp hx with rfl | hx
    · exact h.1
    · exact ih h.2 x hx
theorem modN (m n : Nat) (h : 0 < n) : ∃ i : Nat, i < n ∧ binQ .mod (.int (m : Int)) (.int (n : Int)) = some (.int (i : Int)) := ⟨m % n, Nat.mod_lt _ h, mod_at n h⟩
theorem pickC {cs : List Nat} {i : Nat} (h : i < cs.length) (a : cs.all (· != 37) = true) : ∃ c, getIx cs (i : Int) = some c ∧ (c != 37) = true := by
  obtain ⟨c, hc, e⟩ := pick (xs := cs) i rfl h
  exact ⟨c, e, List.all_eq_true.mp a c hc⟩
theorem pickD {cs : List D} {i : Nat} (h : i < cs.length) (a : okDs cs = true) : ∃ c, getIx cs (i : Int) = some c ∧ okD c = true := by
  obtain ⟨c, hc, e⟩ := pick (xs := cs) i rfl h
  exact ⟨c, e, all_mem a c hc⟩
theorem big2 : ∀ n, n ≤ 100 → n ≤ big := fun n h => Nat.le_trans h (by decide)
theorem call_own {k : Nat} {xs : List D} {M : Mem} (h : Dr xs) : ∃ t, callK GG CC 0 (k + 1) I_l_law_own_test [.lst xs] M = .ok t M ∧ okD t = true := by
  rw [callK_at (fd := F_l_law_own_test) rfl rfl]
  obtain ⟨m0, e0⟩ := h.at_ (i := 0) 0 rfl (by omega)
  obtain ⟨m1, e1⟩ := h.at_ (i := 1) 1 rfl (by omega)
  obtain ⟨m2, e2⟩ := h.at_ (i := 2) 2 rfl (by omega)
  suffices h : Post (fun d => okD d = true) M (ex ⟨CC, callK GG CC 0 k⟩ 0 S_l_law_own_test [.val (.lst xs), .no] M) by
    obtain ⟨d, e, h⟩ := h
    exact ⟨d, e, h⟩
  unfold S_l_law_own_test
  obtain ⟨w, hw, q9⟩ := modN m0 9 (by omega)
  obtain ⟨i3, h3, q3⟩ := modN m1 3 (by omega)
  obtain ⟨i2, h2, q2⟩ := modN m1 2 (by omega)
  obtain ⟨j3, g3, p3⟩ := modN m2 3 (by omega)
  have q9 : binQ .mod (.int (m0 : Int)) (.int 9) = some (.int (w : Int)) := q9
  have q3 : binQ .mod (.int (m1 : Int)) (.int 3) = some (.int (i3 : Int)) := q3
  have q2 : binQ .mod (.int (m1 : Int)) (.int 2) = some (.int (i2 : Int)) := q2
  have p3 : binQ .mod (.int (m2 : Int)) (.int 3) = some (.int (j3 : Int)) := p3
  obtain ⟨c1, a1, b1⟩ := pickC (cs := [97, 98, 99]) (i := i3) h3 rfl
  obtain ⟨c2, a2, b2⟩ := pickC (cs := [109, 110]) (i := i2) h2 rfl
  obtain ⟨c3, a3, b3⟩ := pickD (cs := [.str [], .str [49], .str [120]]) (i := j3) g3 rfl
  obtain ⟨c4, a4, b4⟩ := pickD (cs := [.str [120], .str [121], .str []]) (i := i3) h3 rfl
  refine Post.seq (fun ρ => ρ = [.val (.lst xs), .val (.int (w : Int))]) ⟨_, by simp [ev, evs, evI, evAnd, evOr, ex, start, E.isNil, setTg, bind_ok, bind_exc, bind_bad, bind_ite, bind_bind, noexc_ok, lift_some, lift_none, lift_ite, fin_ret, fin_next, cmp_eq, cmp_ne, cmp_lt, cmp_le, cmp_gt, cmp_ge, cmp_in, cmp_notIn, cmp_leS, cmp_ltS, cmp_is, cmp_isNot, in_str, eqQ_int, eqQ_str, add_int, sub_int, add_lst, add_tup, add_str, idx_lst, idx_tup, idx_str, tru_bl, tru_int, tru_lst, tru_tup, tru_str, tru_non, len_lst, len_tup, len_str, bi_int, bi_all, bi_any, bi_tuple, seq_lst, seq_tup, seq_str, tst_nil, tst_c, map_some, map_ite, isi_tup_t, isi_str_t, wipe_nil, wipe_cons, e0, q9], rfl⟩ ?_
  rintro _ rfl
  refine Post.iteSeq (d := .bl (decide ((w : Int) < 3))) rfl rfl (fun _ => ?_) (fun _ => Post.skipSeq ?_)
  · exact Post.retSeq2 (d := .tup [.str [110, 97, 109, 101], .str [c1]]) (by simp [ev, evs, evI, evAnd, evOr, ex, start, E.isNil, setTg, bind_ok, bind_exc, bind_bad, bind_ite, bind_bind, noexc_ok, lift_some, lift_none, lift_ite, fin_ret, fin_next, cmp_eq, cmp_ne, cmp_lt, cmp_le, cmp_gt, cmp_ge, cmp_in, cmp_notIn, cmp_leS, cmp_ltS, cmp_is, cmp_isNot, in_str, eqQ_int, eqQ_str, add_int, sub_int, add_lst, add_tup, add_str, idx_lst, idx_tup, idx_str, tru_bl, tru_int, tru_lst, tru_tup, tru_str, tru_non, len_lst, len_tup, len_str, bi_int, bi_all, bi_any, bi_tuple, seq_lst, seq_tup, seq_str, tst_nil, tst_c, map_some, map_ite, isi_tup_t, isi_str_t, wipe_nil, wipe_cons, e1, q3, a1, big2]) (by simp [ev, evs, evI, evAnd, evOr, ex, start, E.isNil, setTg, bind_ok, bind_exc, bind_bad, bind_ite, bind_bind, noexc_ok, lift_some, lift_none, lift_ite, fin_ret, fin_next, cmp_eq, cmp_ne, cmp_lt, cmp_le, cmp_gt, cmp_ge, cmp_in, cmp_notIn, cmp_leS, cmp_ltS, cmp_is, cmp_isNot, in_str, eqQ_int, eqQ_str, add_int, sub_int, add_lst, add_tup, add_str, idx_lst, idx_tup, idx_str, tru_bl, tru_int, tru_lst, tru_tup, tru_str, tru_non, len_lst, len_tup, len_str, bi_int, bi_all, bi_any, bi_tuple, seq_lst, seq_tup, seq_str, tst_nil, tst_c, map_some, map_ite, isi_tup_t, isi_str_t, wipe_nil, wipe_cons, okD, okDs]; simpa using b1)
  refine Post.iteSeq (d := .bl ((w : Int) == 3)) rfl rfl (fun _ => ?_) (fun _ => Post.skipSeq ?_)
  · exact Post.retSeq2 (d := .tup [.str [109, 97, 114, 107], .str [c2]]) (by simp [ev, evs, evI, evAnd, evOr, ex, start, E.isNil, setTg, bind_ok, bind_exc, bind_bad, bind_ite, bind_bind, noexc_ok, lift_some, lift_none, lift_ite, fin_ret, fin_next, cmp_eq, cmp_ne, cmp_lt, cmp_le, cmp_gt, cmp_ge, cmp_in, cmp_notIn, cmp_leS, cmp_ltS, cmp_is, cmp_isNot, in_str, eqQ_int, eqQ_str, add_int, sub_int, add_lst, add_tup, add_str, idx_lst, idx_tup, idx_str, tru_bl, tru_int, tru_lst, tru_tup, tru_str, tru_non, len_lst, len_tup, len_str, bi_int, bi_all, bi_any, bi_tuple, seq_lst, seq_tup, seq_str, tst_nil, tst_c, map_some, map_ite, isi_tup_t, isi_str_t, wipe_nil, wipe_cons, e1, q2, a2, big2]) (by simp [ev, evs, evI, evAnd, evOr, ex, start, E.isNil, setTg, bind_ok, bind_exc, bind_bad, bind_ite, bind_bind, noexc_ok, lift_some, lift_none, lift_ite, fin_ret, fin_next, cmp_eq, cmp_ne, cmp_lt, cmp_le, cmp_gt, cmp_ge, cmp_in, cmp_notIn, cmp_leS, cmp_ltS, cmp_is, cmp_isNot, in_str, eqQ_int, eqQ_str, add_int, sub_int, add_lst, add_tup, add_str, idx_lst, idx_tup, idx_str, tru_bl, tru_int, tru_lst, tru_tup, tru_str, tru_non, len_lst, len_tup, len_str, bi_int, bi_all, bi_any, bi_tuple, seq_lst, seq_tup, seq_str, tst_nil, tst_c, map_some, map_ite, isi_tup_t, isi_str_t, wipe_nil, wipe_cons, okD, okDs]; simpa using b2)
  refine Post.iteSeq (d := .bl (decide ((w : Int) < 6))) rfl rfl (fun _ => ?_) (fun _ => Post.skipSeq ?_)
  · exact Post.retSeq2 (d := .tup [.str [118, 97, 108, 117, 101], .str [c2], c3]) (by simp [ev, evs, evI, evAnd, evOr, ex, start, E.isNil, setTg, bind_ok, bind_exc, bind_bad, bind_ite, bind_bind, noexc_ok, lift_some, lift_none, lift_ite, fin_ret, fin_next, cmp_eq, cmp_ne, cmp_lt, cmp_le, cmp_gt, cmp_ge, cmp_in, cmp_notIn, cmp_leS, cmp_ltS, cmp_is, cmp_isNot, in_str, eqQ_int, eqQ_str, add_int, sub_int, add_lst, add_tup, add_str, idx_lst, idx_tup, idx_str, tru_bl, tru_int, tru_lst, tru_tup, tru_str, tru_non, len_lst, len_tup, len_str, bi_int, bi_all, bi_any, bi_tuple, seq_lst, seq_tup, seq_str, tst_nil, tst_c, map_some, map_ite, isi_tup_t, isi_str_t, wipe_nil, wipe_cons, e1, e2, q2, p3, a2, a3, big2]) (by simp [ev, evs, evI, evAnd, evOr, ex, start, E.isNil, setTg, bind_ok, bind_exc, bind_bad, bind_ite, bind_bind, noexc_ok, lift_some, lift_none, lift_ite, fin_ret, fin_next, cmp_eq, cmp_ne, cmp_lt, cmp_le, cmp_gt, cmp_ge, cmp_in, cmp_notIn, cmp_leS, cmp_ltS, cmp_is, cmp_isNot, in_str, eqQ_int, eqQ_str, add_int, sub_int, add_lst, add_tup, add_str, idx_lst, idx_tup, idx_str, tru_bl, tru_int, tru_lst, tru_tup, tru_str, tru_non, len_lst, len_tup, len_str, bi_int, bi_all, bi_any, bi_tuple, seq_lst, seq_tup, seq_str, tst_nil, tst_c, map_some, map_ite, isi_tup_t, isi_str_t, wipe_nil, wipe_cons, okD, okDs, b3]; simpa using b2)
  refine Post.iteSeq (d := .bl ((w : Int) == 6)) rfl rfl (fun _ => ?_) (fun _ => Post.skipSeq ?_)
  · exact Post.retSeq2 (d := .tup [.str [116, 101, 120, 116], c4]) (by simp [ev, evs, evI, evAnd, evOr, ex, start, E.isNil, setTg, bind_ok, bind_exc, bind_bad, bind_ite, bind_bind, noexc_ok, lift_some, lift_none, lift_ite, fin_ret, fin_next, cmp_eq, cmp_ne, cmp_lt, cmp_le, cmp_gt, cmp_ge, cmp_in, cmp_notIn, cmp_leS, cmp_ltS, cmp_is, cmp_isNot, in_str, eqQ_int, eqQ_str, add_int, sub_int, add_lst, add_tup, add_str, idx_lst, idx_tup, idx_str, tru_bl, tru_int, tru_lst, tru_tup, tru_str, tru_non, len_lst, len_tup, len_str, bi_int, bi_all, bi_any, bi_tuple, seq_lst, seq_tup, seq_str, tst_nil, tst_c, map_some, map_ite, isi_tup_t, isi_str_t, wipe_nil, wipe_cons, e1, q3, a4, big2]) (by simp [ev, evs, evI, evAnd, evOr, ex, start, E.isNil, setTg, bind_ok, bind_exc, bind_bad, bind_ite, bind_bind, noexc_ok, lift_some, lift_none, lift_ite, fin_ret, fin_next, cmp_eq, cmp_ne, cmp_lt, cmp_le, cmp_gt, cmp_ge, cmp_in, cmp_notIn, cmp_leS, cmp_ltS, cmp_is, cmp_isNot, in_str, eqQ_int, eqQ_str, add_int, sub_int, add_lst, add_tup, add_str, idx_lst, idx_tup, idx_str, tru_bl, tru_int, tru_lst, tru_tup, tru_str, tru_non, len_lst, len_tup, len_str, bi_int, bi_all, bi_any, bi_tuple, seq_lst, seq_tup, seq_str, tst_nil, tst_c, map_some, map_ite, isi_tup_t, isi_str_t, wipe_nil, wipe_cons, okD, okDs, b4])
  by_cases h7 : (w : Int) = 7
  · exact Post.retSeq (s := .skip) (d := .tup [.str [97, 110, 121]]) (by simp [ev, evs, evI, evAnd, evOr, ex, start, E.isNil, setTg, bind_ok, bind_exc, bind_bad, bind_ite, bind_bind, noexc_ok, lift_some, lift_none, lift_ite, fin_ret, fin_next, cmp_eq, cmp_ne, cmp_lt, cmp_le, cmp_gt, cmp_ge, cmp_in, cmp_notIn, cmp_leS, cmp_ltS, cmp_is, cmp_isNot, in_str, eqQ_int, eqQ_str, add_int, sub_int, add_lst, add_tup, add_str, idx_lst, idx_tup, idx_str, tru_bl, tru_int, tru_lst, tru_tup, tru_str, tru_non, len_lst, len_tup, len_str, bi_int, bi_all, bi_any, bi_tuple, seq_lst, seq_tup, seq_str, tst_nil, tst_c, map_some, map_ite, isi_tup_t, isi_str_t, wipe_nil, wipe_cons, h7, big2]) rfl
  · exact Post.retSeq (s := .skip) (d := .tup [.str [102, 105, 114, 115, 116]]) (by simp [ev, evs, evI, evAnd, evOr, ex, start, E.isNil, setTg, bind_ok, bind_exc, bind_bad, bind_ite, bind_bind, noexc_ok, lift_some, lift_none, lift_ite, fin_ret, fin_next, cmp_eq, cmp_ne, cmp_lt, cmp_le, cmp_gt, cmp_ge, cmp_in, cmp_notIn, cmp_leS, cmp_ltS, cmp_is, cmp_isNot, in_str, eqQ_int, eqQ_str, add_int, sub_int, add_lst, add_tup, add_str, idx_lst, idx_tup, idx_str, tru_bl, tru_int, tru_lst, tru_tup, tru_str, tru_non, len_lst, len_tup, len_str, bi_int, bi_all, bi_any, bi_tuple, seq_lst, seq_tup, seq_str, tst_nil, tst_c, map_some, map_ite, isi_tup_t, isi_str_t, wipe_nil, wipe_cons, h7, big2]) rfl
/-- a drawn test -/
theorem test_step (d k : Nat) (xs : List D) (M : Mem) (h : Dr xs) (IH : ∀ (d' : Nat) (ys : List D), d = d' + 1 → Dr ys → ∃ t, callK GG CC 0 (k + d' + 1 + 1) I_l_law_test [.lst ys, .int d', .bl false] M = .ok t M ∧ okD t = true) :
    ∃ t, callK GG CC 0 (k + d + 1 + 1) I_l_law_test [.lst xs, .int d, .bl false] M = .ok t M ∧ okD t = true := by
  rw [callK_at (fd := F_l_law_test) rfl rfl]
  obtain ⟨m3, e3⟩ := h.at_ (i := 3) 3 rfl (by omega)
  obtain ⟨m4, e4⟩ := h.at_ (i := 4) 4 rfl (by omega)
  obtain ⟨own, eo, ho⟩ := call_own (k := k + d) (M := M) h
  suffices h : Post (fun d => okD d = true) M (ex ⟨CC, callK GG CC 0 (k + d + 1)⟩ 0 S_l_law_test [.val (.lst xs), .val (.int d), .val (.bl false), .no, .no, .no, .no] M) by
    obtain ⟨d, e, h⟩ := h
    exact ⟨d, e, h⟩
  unfold S_l_law_test
  obtain ⟨w, hw, q14⟩ := modN m3 14 (by omega)
  obtain ⟨i2, h2, q2⟩ := modN m4 2 (by omega)
  have q14 : binQ .mod (.int (m3 : Int)) (.int 14) = some (.int (w : Int)) := q14
  have q2 : binQ .mod (.int (m4 : Int)) (.int 2) = some (.int (i2 : Int)) := q2
  obtain ⟨c1, a1, b1⟩ := pickD (cs := [.str [111, 118, 101, 114], .str [104, 97, 115]]) (i := i2) h2 rfl
  obtain ⟨c2, a2, b2⟩ := pickD (cs := [.str [108, 97, 115, 116], .str [101, 109, 112, 116, 121]]) (i := i2) h2 rfl
  refine Post.seq (fun ρ => ρ = [.val (.lst xs), .val (.int d), .val (.bl false), .val (.int (w : Int)), .no, .no, .no]) ⟨_, by simp [ev, evs, evI, evAnd, evOr, ex, start, E.isNil, setTg, bind_ok, bind_exc, bind_bad, bind_ite, bind_bind, noexc_ok, lift_some, lift_none, lift_ite, fin_ret, fin_next, cmp_eq, cmp_ne, cmp_lt, cmp_le, cmp_gt, cmp_ge, cmp_in, cmp_notIn, cmp_leS, cmp_ltS, cmp_is, cmp_isNot, in_str, eqQ_int, eqQ_str, add_int, sub_int, add_lst, add_tup, add_str, idx_lst, idx_tup, idx_str, tru_bl, tru_int, tru_lst, tru_tup, tru_str, tru_non, len_lst, len_tup, len_str, bi_int, bi_all, bi_any, bi_tuple, seq_lst, seq_tup, seq_str, tst_nil, tst_c, map_some, map_ite, isi_tup_t, isi_str_t, wipe_nil, wipe_cons, e3, q14], rfl⟩ ?_
  rintro _ rfl
  have eor : ∀ ρ : Env, ρ = [.val (.lst xs), .val (.int d), .val (.bl false), .val (.int (w : Int)), .no, .no, .no] → ev ⟨CC, callK GG CC 0 (k + d + 1)⟩ (.or (.cons (.cmp .eq (.var 1) (.int 0)) (.cons (.cmp .lt (.var 3) (.int 3)) .nil))) ρ M = .ok (D.bl ((d : Int) == 0 || decide ((w : Int) < 3))) M := by
    rintro _ rfl
    cases d with
    | zero => simp [ev, evs, evI, evAnd, evOr, ex, start, E.isNil, setTg, bind_ok, bind_exc, bind_bad, bind_ite, bind_bind, noexc_ok, lift_some, lift_none, lift_ite, fin_ret, fin_next, cmp_eq, cmp_ne, cmp_lt, cmp_le, cmp_gt, cmp_ge, cmp_in, cmp_notIn, cmp_leS, cmp_ltS, cmp_is, cmp_isNot, in_str, eqQ_int, eqQ_str, add_int, sub_int, add_lst, add_tup, add_str, idx_lst, idx_tup, idx_str, tru_bl, tru_int, tru_lst, tru_tup, tru_str, tru_non, len_lst, len_tup, len_str, bi_int, bi_all, bi_any, bi_tuple, seq_lst, seq_tup, seq_str, tst_nil, tst_c, map_some, map_ite, isi_tup_t, isi_str_t, wipe_nil, wipe_cons]
    | succ d =>
      have e0 : ((d : Int) + 1 = 0) = False := by apply eq_false; omega
      have e1 : ((d : Int) + 1 == 0) = false := by simp [ev, evs, evI, evAnd, evOr, ex, start, E.isNil, setTg, bind_ok, bind_exc, bind_bad, bind_ite, bind_bind, noexc_ok, lift_some, lift_none, lift_ite, fin_ret, fin_next, cmp_eq, cmp_ne, cmp_lt, cmp_le, cmp_gt, cmp_ge, cmp_in, cmp_notIn, cmp_leS, cmp_ltS, cmp_is, cmp_isNot, in_str, eqQ_int, eqQ_str, add_int, sub_int, add_lst, add_tup, add_str, idx_lst, idx_tup, idx_str, tru_bl, tru_int, tru_lst, tru_tup, tru_str, tru_non, len_lst, len_tup, len_str, bi_int, bi_all, bi_any, bi_tuple, seq_lst, seq_tup, seq_str, tst_nil, tst_c, map_some, map_ite, isi_tup_t, isi_str_t, wipe_nil, wipe_cons]; omega
      simp [ev, evs, evI, evAnd, evOr, ex, start, E.isNil, setTg, bind_ok, bind_exc, bind_bad, bind_ite, bind_bind, noexc_ok, lift_some, lift_none, lift_ite, fin_ret, fin_next, cmp_eq, cmp_ne, cmp_lt, cmp_le, cmp_gt, cmp_ge, cmp_in, cmp_notIn, cmp_leS, cmp_ltS, cmp_is, cmp_isNot, in_str, eqQ_int, eqQ_str, add_int, sub_int, add_lst, add_tup, add_str, idx_lst, idx_tup, idx_str, tru_bl, tru_int, tru_lst, tru_tup, tru_str, tru_non, len_lst, len_tup, len_str, bi_int, bi_all, bi_any, bi_tuple, seq_lst, seq_tup, seq_str, tst_nil, tst_c, map_some, map_ite, isi_tup_t, isi_str_t, wipe_nil, wipe_cons, e0, e1]
  refine Post.iteSeq (eor _ rfl) rfl (fun _ => ?_) (fun hn => Post.skipSeq ?_)
  · exact Post.retSeq2 (d := own) (by simp [ev, evs, evI, evAnd, evOr, ex, start, E.isNil, setTg, bind_ok, bind_exc, bind_bad, bind_ite, bind_bind, noexc_ok, lift_some, lift_none, lift_ite, fin_ret, fin_next, cmp_eq, cmp_ne, cmp_lt, cmp_le, cmp_gt, cmp_ge, cmp_in, cmp_notIn, cmp_leS, cmp_ltS, cmp_is, cmp_isNot, in_str, eqQ_int, eqQ_str, add_int, sub_int, add_lst, add_tup, add_str, idx_lst, idx_tup, idx_str, tru_bl, tru_int, tru_lst, tru_tup, tru_str, tru_non, len_lst, len_tup, len_str, bi_int, bi_all, bi_any, bi_tuple, seq_lst, seq_tup, seq_str, tst_nil, tst_c, map_some, map_ite, isi_tup_t, isi_str_t, wipe_nil, wipe_cons, eo]) ho
  cases d with
  | zero => cases hn
  | succ d =>
  have hl : xs.length = 24 := h.1
  have d5 := h.rot 5
  have ec : binQ .add (.lst (cut xs (some 5) none)) (.lst (cut xs none (some 5))) = some (.lst (xs.drop 5 ++ xs.take 5)) := by
    have e1 : cut xs (some 5) none = xs.drop 5 := cut_lo 5 (by omega)
    have e2 : cut xs none (some 5) = xs.take 5 := cut_hi 5 (by omega)
    rw [e1, e2, add_lst, if_pos (big2 _ (by simp [ev, evs, evI, evAnd, evOr, ex, start, E.isNil, setTg, bind_ok, bind_exc, bind_bad, bind_ite, bind_bind, noexc_ok, lift_some, lift_none, lift_ite, fin_ret, fin_next, cmp_eq, cmp_ne, cmp_lt, cmp_le, cmp_gt, cmp_ge, cmp_in, cmp_notIn, cmp_leS, cmp_ltS, cmp_is, cmp_isNot, in_str, eqQ_int, eqQ_str, add_int, sub_int, add_lst, add_tup, add_str, idx_lst, idx_tup, idx_str, tru_bl, tru_int, tru_lst, tru_tup, tru_str, tru_non, len_lst, len_tup, len_str, bi_int, bi_all, bi_any, bi_tuple, seq_lst, seq_tup, seq_str, tst_nil, tst_c, map_some, map_ite, isi_tup_t, isi_str_t, wipe_nil, wipe_cons]; omega))]
  generalize hys : xs.drop 5 ++ xs.take 5 = ys at *
  obtain ⟨t1, et1, ht1⟩ := IH d ys rfl d5
  rw [show k + d + 1 + 1 = k + (d + 1) + 1 by omega] at et1
  have ed : ((d + 1 : Nat) : Int) - 1 = d := by omega
  refine Post.seq (fun ρ => ρ = [.val (.lst xs), .val (.int ((d + 1 : Nat) : Int)), .val (.bl false), .val (.int (w : Int)), .val (.lst ys), .no, .no]) ⟨_, by simp [ev, evs, evI, evAnd, evOr, ex, start, E.isNil, setTg, bind_ok, bind_exc, bind_bad, bind_ite, bind_bind, noexc_ok, lift_some, lift_none, lift_ite, fin_ret, fin_next, cmp_eq, cmp_ne, cmp_lt, cmp_le, cmp_gt, cmp_ge, cmp_in, cmp_notIn, cmp_leS, cmp_ltS, cmp_is, cmp_isNot, in_str, eqQ_int, eqQ_str, add_int, sub_int, add_lst, add_tup, add_str, idx_lst, idx_tup, idx_str, tru_bl, tru_int, tru_lst, tru_tup, tru_str, tru_non, len_lst, len_tup, len_str, bi_int, bi_all, bi_any, bi_tuple, seq_lst, seq_tup, seq_str, tst_nil, tst_c, map_some, map_ite, isi_tup_t, isi_str_t, wipe_nil, wipe_cons, boundQ, slcQ, E.isNon, ec], rfl⟩ ?_
  rintro _ rfl
  refine Post.iteSeq (d := .bl (decide ((w : Int) < 5))) rfl rfl (fun _ => ?_) (fun h5 => Post.skipSeq ?_)
  · exact Post.retSeq2 (d := .tup [.str [110, 111, 116], t1]) (by simp [ev, evs, evI, evAnd, evOr, ex, start, E.isNil, setTg, bind_ok, bind_exc, bind_bad, bind_ite, bind_bind, noexc_ok, lift_some, lift_none, lift_ite, fin_ret, fin_next, cmp_eq, cmp_ne, cmp_lt, cmp_le, cmp_gt, cmp_ge, cmp_in, cmp_notIn, cmp_leS, cmp_ltS, cmp_is, cmp_isNot, in_str, eqQ_int, eqQ_str, add_int, sub_int, add_lst, add_tup, add_str, idx_lst, idx_tup, idx_str, tru_bl, tru_int, tru_lst, tru_tup, tru_str, tru_non, len_lst, len_tup, len_str, bi_int, bi_all, bi_any, bi_tuple, seq_lst, seq_tup, seq_str, tst_nil, tst_c, map_some, map_ite, isi_tup_t, isi_str_t, wipe_nil, wipe_cons, ed, et1, big2]) (by simp [ev, evs, evI, evAnd, evOr, ex, start, E.isNil, setTg, bind_ok, bind_exc, bind_bad, bind_ite, bind_bind, noexc_ok, lift_some, lift_none, lift_ite, fin_ret, fin_next, cmp_eq, cmp_ne, cmp_lt, cmp_le, cmp_gt, cmp_ge, cmp_in, cmp_notIn, cmp_leS, cmp_ltS, cmp_is, cmp_isNot, in_str, eqQ_int, eqQ_str, add_int, sub_int, add_lst, add_tup, add_str, idx_lst, idx_tup, idx_str, tru_bl, tru_int, tru_lst, tru_tup, tru_str, tru_non, len_lst, len_tup, len_str, bi_int, bi_all, bi_any, bi_tuple, seq_lst, seq_tup, seq_str, tst_nil, tst_c, map_some, map_ite, isi_tup_t, isi_str_t, wipe_nil, wipe_cons, okD, okDs, ht1])
  have h5 := of_decide_eq_false h5
  refine Post.iteSeq (d := .bl (decide ((w : Int) < 9))) rfl rfl (fun h9 => ?_) (fun h9 => Post.skipSeq ?_)
  · have h9 := of_decide_eq_true h9
    obtain ⟨c3, a3, b3⟩ := pickD (cs := [.str [117, 110, 100, 101, 114], .str [105, 110], .str [110, 101, 120, 116], .str [98, 101, 104, 105, 110, 100]]) (i := w - 5) (by show w - 5 < 4; omega) rfl
    rw [show ((w - 5 : Nat) : Int) = (w : Int) - 5 by omega] at a3
    exact Post.retSeq2 (d := .tup [c3, t1]) (by simp [ev, evs, evI, evAnd, evOr, ex, start, E.isNil, setTg, bind_ok, bind_exc, bind_bad, bind_ite, bind_bind, noexc_ok, lift_some, lift_none, lift_ite, fin_ret, fin_next, cmp_eq, cmp_ne, cmp_lt, cmp_le, cmp_gt, cmp_ge, cmp_in, cmp_notIn, cmp_leS, cmp_ltS, cmp_is, cmp_isNot, in_str, eqQ_int, eqQ_str, add_int, sub_int, add_lst, add_tup, add_str, idx_lst, idx_tup, idx_str, tru_bl, tru_int, tru_lst, tru_tup, tru_str, tru_non, len_lst, len_tup, len_str, bi_int, bi_all, bi_any, bi_tuple, seq_lst, seq_tup, seq_str, tst_nil, tst_c, map_some, map_ite, isi_tup_t, isi_str_t, wipe_nil, wipe_cons, ed, et1, big2, a3]) (by simp [ev, evs, evI, evAnd, evOr, ex, start, E.isNil, setTg, bind_ok, bind_exc, bind_bad, bind_ite, bind_bind, noexc_ok, lift_some, lift_none, lift_ite, fin_ret, fin_next, cmp_eq, cmp_ne, cmp_lt, cmp_le, cmp_gt, cmp_ge, cmp_in, cmp_notIn, cmp_leS, cmp_ltS, cmp_is, cmp_isNot, in_str, eqQ_int, eqQ_str, add_int, sub_int, add_lst, add_tup, add_str, idx_lst, idx_tup, idx_str, tru_bl, tru_int, tru_lst, tru_tup, tru_str, tru_non, len_lst, len_tup, len_str, bi_int, bi_all, bi_any, bi_tuple, seq_lst, seq_tup, seq_str, tst_nil, tst_c, map_some, map_ite, isi_tup_t, isi_str_t, wipe_nil, wipe_cons, okD, okDs, ht1, b3])
  refine Post.iteSeq (d := .bl (decide ((w : Int) < 12))) rfl rfl (fun _ => ?_) (fun h12 => Post.skipSeq ?_)
  · have hl2 : ys.length = 24 := d5.1
    have ec2 : binQ .add (.lst (cut ys (some 3) none)) (.lst (cut ys none (some 3))) = some (.lst (ys.drop 3 ++ ys.take 3)) := by
      have e1 : cut ys (some 3) none = ys.drop 3 := cut_lo 3 (by omega)
      have e2 : cut ys none (some 3) = ys.take 3 := cut_hi 3 (by omega)
      rw [e1, e2, add_lst, if_pos (big2 _ (by simp [ev, evs, evI, evAnd, evOr, ex, start, E.isNil, setTg, bind_ok, bind_exc, bind_bad, bind_ite, bind_bind, noexc_ok, lift_some, lift_none, lift_ite, fin_ret, fin_next, cmp_eq, cmp_ne, cmp_lt, cmp_le, cmp_gt, cmp_ge, cmp_in, cmp_notIn, cmp_leS, cmp_ltS, cmp_is, cmp_isNot, in_str, eqQ_int, eqQ_str, add_int, sub_int, add_lst, add_tup, add_str, idx_lst, idx_tup, idx_str, tru_bl, tru_int, tru_lst, tru_tup, tru_str, tru_non, len_lst, len_tup, len_str, bi_int, bi_all, bi_any, bi_tuple, seq_lst, seq_tup, seq_str, tst_nil, tst_c, map_some, map_ite, isi_tup_t, isi_str_t, wipe_nil, wipe_cons]; omega))]
    have d8 := d5.rot 3
    generalize hzs : ys.drop 3 ++ ys.take 3 = zs at *
    obtain ⟨t2, et2, ht2⟩ := IH d zs rfl d8
    rw [show k + d + 1 + 1 = k + (d + 1) + 1 by omega] at et2
    refine Post.assoc (Post.seq (fun ρ => ρ = [.val (.lst xs), .val (.int ((d + 1 : Nat) : Int)), .val (.bl false), .val (.int (w : Int)), .val (.lst ys), .val (.lst zs), .no]) ⟨_, by simp [ev, evs, evI, evAnd, evOr, ex, start, E.isNil, setTg, bind_ok, bind_exc, bind_bad, bind_ite, bind_bind, noexc_ok, lift_some, lift_none, lift_ite, fin_ret, fin_next, cmp_eq, cmp_ne, cmp_lt, cmp_le, cmp_gt, cmp_ge, cmp_in, cmp_notIn, cmp_leS, cmp_ltS, cmp_is, cmp_isNot, in_str, eqQ_int, eqQ_str, add_int, sub_int, add_lst, add_tup, add_str, idx_lst, idx_tup, idx_str, tru_bl, tru_int, tru_lst, tru_tup, tru_str, tru_non, len_lst, len_tup, len_str, bi_int, bi_all, bi_any, bi_tuple, seq_lst, seq_tup, seq_str, tst_nil, tst_c, map_some, map_ite, isi_tup_t, isi_str_t, wipe_nil, wipe_cons, boundQ, slcQ, E.isNon, ec2], rfl⟩ ?_)
    rintro _ rfl
    refine Post.assoc (Post.seq (fun ρ => ρ = [.val (.lst xs), .val (.int ((d + 1 : Nat) : Int)), .val (.bl false), .val (.int (w : Int)), .val (.lst ys), .val (.lst zs), .val (.tup [t1, t2])]) ⟨_, by simp [ev, evs, evI, evAnd, evOr, ex, start, E.isNil, setTg, bind_ok, bind_exc, bind_bad, bind_ite, bind_bind, noexc_ok, lift_some, lift_none, lift_ite, fin_ret, fin_next, cmp_eq, cmp_ne, cmp_lt, cmp_le, cmp_gt, cmp_ge, cmp_in, cmp_notIn, cmp_leS, cmp_ltS, cmp_is, cmp_isNot, in_str, eqQ_int, eqQ_str, add_int, sub_int, add_lst, add_tup, add_str, idx_lst, idx_tup, idx_str, tru_bl, tru_int, tru_lst, tru_tup, tru_str, tru_non, len_lst, len_tup, len_str, bi_int, bi_all, bi_any, bi_tuple, seq_lst, seq_tup, seq_str, tst_nil, tst_c, map_some, map_ite, isi_tup_t, isi_str_t, wipe_nil, wipe_cons, ed, et1, et2, big2], rfl⟩ ?_)
    rintro _ rfl
    by_cases h11 : (w : Int) < 11
    · exact Post.retSeq2 (d := .tup [.str [98, 111, 116, 104], .tup [t1, t2]]) (by simp [ev, evs, evI, evAnd, evOr, ex, start, E.isNil, setTg, bind_ok, bind_exc, bind_bad, bind_ite, bind_bind, noexc_ok, lift_some, lift_none, lift_ite, fin_ret, fin_next, cmp_eq, cmp_ne, cmp_lt, cmp_le, cmp_gt, cmp_ge, cmp_in, cmp_notIn, cmp_leS, cmp_ltS, cmp_is, cmp_isNot, in_str, eqQ_int, eqQ_str, add_int, sub_int, add_lst, add_tup, add_str, idx_lst, idx_tup, idx_str, tru_bl, tru_int, tru_lst, tru_tup, tru_str, tru_non, len_lst, len_tup, len_str, bi_int, bi_all, bi_any, bi_tuple, seq_lst, seq_tup, seq_str, tst_nil, tst_c, map_some, map_ite, isi_tup_t, isi_str_t, wipe_nil, wipe_cons, h11, big2]) (by simp [ev, evs, evI, evAnd, evOr, ex, start, E.isNil, setTg, bind_ok, bind_exc, bind_bad, bind_ite, bind_bind, noexc_ok, lift_some, lift_none, lift_ite, fin_ret, fin_next, cmp_eq, cmp_ne, cmp_lt, cmp_le, cmp_gt, cmp_ge, cmp_in, cmp_notIn, cmp_leS, cmp_ltS, cmp_is, cmp_isNot, in_str, eqQ_int, eqQ_str, add_int, sub_int, add_lst, add_tup, add_str, idx_lst, idx_tup, idx_str, tru_bl, tru_int, tru_lst, tru_tup, tru_str, tru_non, len_lst, len_tup, len_str, bi_int, bi_all, bi_any, bi_tuple, seq_lst, seq_tup, seq_str, tst_nil, tst_c, map_some, map_ite, isi_tup_t, isi_str_t, wipe_nil, wipe_cons, okD, okDs, ht1, ht2])
    · exact Post.retSeq2 (d := .tup [.str [111, 110, 101], .tup [t1, t2]]) (by simp [ev, evs, evI, evAnd, evOr, ex, start, E.isNil, setTg, bind_ok, bind_exc, bind_bad, bind_ite, bind_bind, noexc_ok, lift_some, lift_none, lift_ite, fin_ret, fin_next, cmp_eq, cmp_ne, cmp_lt, cmp_le, cmp_gt, cmp_ge, cmp_in, cmp_notIn, cmp_leS, cmp_ltS, cmp_is, cmp_isNot, in_str, eqQ_int, eqQ_str, add_int, sub_int, add_lst, add_tup, add_str, idx_lst, idx_tup, idx_str, tru_bl, tru_int, tru_lst, tru_tup, tru_str, tru_non, len_lst, len_tup, len_str, bi_int, bi_all, bi_any, bi_tuple, seq_lst, seq_tup, seq_str, tst_nil, tst_c, map_some, map_ite, isi_tup_t, isi_str_t, wipe_nil, wipe_cons, h11, big2]) (by simp [ev, evs, evI, evAnd, evOr, ex, start, E.isNil, setTg, bind_ok, bind_exc, bind_bad, bind_ite, bind_bind, noexc_ok, lift_some, lift_none, lift_ite, fin_ret, fin_next, cmp_eq, cmp_ne, cmp_lt, cmp_le, cmp_gt, cmp_ge, cmp_in, cmp_notIn, cmp_leS, cmp_ltS, cmp_is, cmp_isNot, in_str, eqQ_int, eqQ_str, add_int, sub_int, add_lst, add_tup, add_str, idx_lst, idx_tup, idx_str, tru_bl, tru_int, tru_lst, tru_tup, tru_str, tru_non, len_lst, len_tup, len_str, bi_int, bi_all, bi_any, bi_tuple, seq_lst, seq_tup, seq_str, tst_nil, tst_c, map_some, map_ite, isi_tup_t, isi_str_t, wipe_nil, wipe_cons, okD, okDs, ht1, ht2])
  refine Post.iteSeq (d := .bl false) rfl rfl (fun h => by cases h) (fun _ => Post.skipSeq ?_)
  refine Post.iteSeq (d := .bl ((w : Int) == 12)) rfl rfl (fun _ => ?_) (fun _ => Post.skipSeq ?_)
  · exact Post.retSeq2 (d := .tup [c1, t1]) (by simp [ev, evs, evI, evAnd, evOr, ex, start, E.isNil, setTg, bind_ok, bind_exc, bind_bad, bind_ite, bind_bind, noexc_ok, lift_some, lift_none, lift_ite, fin_ret, fin_next, cmp_eq, cmp_ne, cmp_lt, cmp_le, cmp_gt, cmp_ge, cmp_in, cmp_notIn, cmp_leS, cmp_ltS, cmp_is, cmp_isNot, in_str, eqQ_int, eqQ_str, add_int, sub_int, add_lst, add_tup, add_str, idx_lst, idx_tup, idx_str, tru_bl, tru_int, tru_lst, tru_tup, tru_str, tru_non, len_lst, len_tup, len_str, bi_int, bi_all, bi_any, bi_tuple, seq_lst, seq_tup, seq_str, tst_nil, tst_c, map_some, map_ite, isi_tup_t, isi_str_t, wipe_nil, wipe_cons, e4, q2, a1, ed, et1, big2]) (by simp [ev, evs, evI, evAnd, evOr, ex, start, E.isNil, setTg, bind_ok, bind_exc, bind_bad, bind_ite, bind_bind, noexc_ok, lift_some, lift_none, lift_ite, fin_ret, fin_next, cmp_eq, cmp_ne, cmp_lt, cmp_le, cmp_gt, cmp_ge, cmp_in, cmp_notIn, cmp_leS, cmp_ltS, cmp_is, cmp_isNot, in_str, eqQ_int, eqQ_str, add_int, sub_int, add_lst, add_tup, add_str, idx_lst, idx_tup, idx_str, tru_bl, tru_int, tru_lst, tru_tup, tru_str, tru_non, len_lst, len_tup, len_str, bi_int, bi_all, bi_any, bi_tuple, seq_lst, seq_tup, seq_str, tst_nil, tst_c, map_some, map_ite, isi_tup_t, isi_str_t, wipe_nil, wipe_cons, okD, okDs, ht1, b1])
  · exact Post.retSeq (s := .skip) (d := .tup [c2]) (by simp [ev, evs, evI, evAnd, evOr, ex, start, E.isNil, setTg, bind_ok, bind_exc, bind_bad, bind_ite, bind_bind, noexc_ok, lift_some, lift_none, lift_ite, fin_ret, fin_next, cmp_eq, cmp_ne, cmp_lt, cmp_le, cmp_gt, cmp_ge, cmp_in, cmp_notIn, cmp_leS, cmp_ltS, cmp_is, cmp_isNot, in_str, eqQ_int, eqQ_str, add_int, sub_int, add_lst, add_tup, add_str, idx_lst, idx_tup, idx_str, tru_bl, tru_int, tru_lst, tru_tup, tru_str, tru_non, len_lst, len_tup, len_str, bi_int, bi_all, bi_any, bi_tuple, seq_lst, seq_tup, seq_str, tst_nil, tst_c, map_some, map_ite, isi_tup_t, isi_str_t, wipe_nil, wipe_cons, e4, q2, a2, big2]) (by simp [ev, evs, evI, evAnd, evOr, ex, start, E.isNil, setTg, bind_ok, bind_exc, bind_bad, bind_ite, bind_bind, noexc_ok, lift_some, lift_none, lift_ite, fin_ret, fin_next, cmp_eq, cmp_ne, cmp_lt, cmp_le, cmp_gt, cmp_ge, cmp_in, cmp_notIn, cmp_leS, cmp_ltS, cmp_is, cmp_isNot, in_str, eqQ_int, eqQ_str, add_int, sub_int, add_lst, add_tup, add_str, idx_lst, idx_tup, idx_str, tru_bl, tru_int, tru_lst, tru_tup, tru_str, tru_non, len_lst, len_tup, len_str, bi_int, bi_all, bi_any, bi_tuple, seq_lst, seq_tup, seq_str, tst_nil, tst_c, map_some, map_ite, isi_tup_t, isi_str_t, wipe_nil, wipe_cons, okD, okDs, b2])
theorem call_test (d : Nat) : ∀ (k : Nat) (xs : List D) (M : Mem), Dr xs → ∃ t, callK GG CC 0 (k + d + 1 + 1) I_l_law_test [.lst xs, .int d, .bl false] M = .ok t M ∧ okD t = true := by
  induction d with
  | zero => exact fun k xs M h => test_step 0 k xs M h fun d' y h => by cases h
  | succ d ih =>
    intro k xs M h
    refine test_step (d + 1) k xs M h fun d' y e hy => ?_
    cases e
    exact ih k y M hy
end Ev

set_option maxRecDepth 100000
set_option maxHeartbeats 8000000
namespace Ev
theorem ne_same {M : Mem} (b : Bool) : eqQ (D.bl b) (D.bl b) = some true := by cases b <;> rfl
abbrev lawK : Nat := 40
abbrev lawFu : Nat := 0
def odd1 : List D := [.tup [.str [110, 97, 109, 101], .str []], .tup [.str [110, 97, 109, 101], .str [97, 98, 99, 100, 101, 102, 103, 104, 105]], .tup [.str [110, 97, 109, 101], .str [97, 98, 99, 100, 101, 102, 103, 104]], .tup [.str [109, 97, 114, 107], .str [65]],
  .tup [.str [116, 101, 120, 116], .str (List.replicate 21 97)], .tup [.str [116, 101, 120, 116], .str (List.replicate 20 97)]]
def odd2 (t : D) : List D := [.tup [.str [118, 97, 108, 117, 101], .str [109]], .tup [.str [118, 97, 108, 117, 101], .str [109], .int 1], .tup [.str [97, 110, 121], t], .tup [.str [98, 111, 116, 104], .tup []], .tup [.str [98, 111, 116, 104], .tup [t]], .tup [.str [111, 110, 101], .lst [t, t]]]
def odd3 (t : D) : List D := [.tup [.str [111, 110, 101], .tup [t, t, t, t]], .tup [.str [111, 110, 101], .tup [t, t, t, t, t]], .tup [.str [110, 111, 116]], .tup [.str [110, 111, 116], t, t], .tup [], .int 5, .str [97, 110, 121], .lst [.str [97, 110, 121]], .tup [.str [110, 111, 110, 101]], .tup [.int 5]]
theorem law_ev (ns : List Int) (h : ns.length ≤ 63) : ∃ M', callK GG CC lawFu lawK I_l_law [.lst (ns.map D.int)] [] = .ok (D.bl true) M' := by
  refine ⟨[], ?_⟩
  rw [show callK GG CC lawFu lawK I_l_law [.lst (ns.map D.int)] [] = callK GG CC 0 (39 + 1) I_l_law [.lst (ns.map D.int)] [] from rfl, callK_at (fd := F_l_law) rfl rfl]
  generalize hM : ([] : Mem) = M
  suffices h : Post (fun d => d = D.bl true) M (ex ⟨CC, callK GG CC 0 39⟩ 0 S_l_law [.val (.lst (ns.map D.int)), .no, .no, .no, .no, .no, .no] M) by
    obtain ⟨d, e, rfl⟩ := h
    exact e
  unfold S_l_law
  refine Post.seq (fun ρ => ∃ a b c d e f, ρ = [.val (.lst (ns.map D.int)), a, b, c, d, e, f]) ?_ ?_
  · refine Nx.for_ (xs := ns.map D.int) (fun j ρ => ∃ a b c d e f, ρ = [.val (.lst (ns.map D.int)), a, b, c, d, e, f]) rfl ⟨_, _, _, _, _, _, rfl⟩ ?_ (fun ρ h => h)
    rintro j x ρ hx ⟨a, b, c, d, e, f, rfl⟩
    obtain ⟨cell, rfl⟩ : ∃ i, x = .int i := by
      rw [List.getElem?_map] at hx
      cases q : ns[j]? with
      | none => rw [q] at hx; cases hx
      | some i => rw [q] at hx; exact ⟨i, (Option.some.inj hx).symm⟩
    refine ⟨_, rfl, ?_⟩
    generalize D.lst (ns.map D.int) = sc
    obtain ⟨xs, exd, hxs⟩ := call_draws (k := 38) (c := cell) (M := M)
    have hD : Dr xs := hxs
    obtain ⟨t, et, ht⟩ := call_test 3 34 xs M hD
    have et : callK GG CC 0 39 I_l_law_test [.lst xs, .int 3, .bl false] M = .ok t M := et
    have exd : callK GG CC 0 39 I_l_law_draws [.int cell, .int 24] M = .ok (.lst xs) M := exd
    refine Nx.seq (fun ρ => ρ = [.val sc, .val (.int cell), .val (.lst xs), c, d, e, f]) ⟨_, by simp [ev, evs, evI, evAnd, evOr, ex, start, E.isNil, setTg, bind_ok, bind_exc, bind_bad, bind_ite, bind_bind, noexc_ok, lift_some, lift_none, lift_ite, fin_ret, fin_next, cmp_eq, cmp_ne, cmp_lt, cmp_le, cmp_gt, cmp_ge, cmp_in, cmp_notIn, cmp_leS, cmp_ltS, cmp_is, cmp_isNot, in_str, eqQ_int, eqQ_str, add_int, sub_int, add_lst, add_tup, add_str, idx_lst, idx_tup, idx_str, tru_bl, tru_int, tru_lst, tru_tup, tru_str, tru_non, len_lst, len_tup, len_str, bi_int, bi_all, bi_any, bi_tuple, seq_lst, seq_tup, seq_str, tst_nil, tst_c, map_some, map_ite, isi_tup_t, isi_str_t, wipe_nil, wipe_cons, exd], rfl⟩ ?_
    rintro _ rfl
    refine Nx.seq (fun ρ => ρ = [.val sc, .val (.int cell), .val (.lst xs), .val t, d, e, f]) ⟨_, by simp [ev, evs, evI, evAnd, evOr, ex, start, E.isNil, setTg, bind_ok, bind_exc, bind_bad, bind_ite, bind_bind, noexc_ok, lift_some, lift_none, lift_ite, fin_ret, fin_next, cmp_eq, cmp_ne, cmp_lt, cmp_le, cmp_gt, cmp_ge, cmp_in, cmp_notIn, cmp_leS, cmp_ltS, cmp_is, cmp_isNot, in_str, eqQ_int, eqQ_str, add_int, sub_int, add_lst, add_tup, add_str, idx_lst, idx_tup, idx_str, tru_bl, tru_int, tru_lst, tru_tup, tru_str, tru_non, len_lst, len_tup, len_str, bi_int, bi_all, bi_any, bi_tuple, seq_lst, seq_tup, seq_str, tst_nil, tst_c, map_some, map_ite, isi_tup_t, isi_str_t, wipe_nil, wipe_cons, et], rfl⟩ ?_
    rintro _ rfl
    have m21 : binQ .mul (.str [97]) (.int 21) = some (.str (List.replicate 21 97)) := rfl
    have m20 : binQ .mul (.str [97]) (.int 20) = some (.str (List.replicate 20 97)) := rfl
    refine Nx.seq (fun ρ => ρ = [.val sc, .val (.int cell), .val (.lst xs), .val t, .val (.lst odd1), e, f]) ⟨_, by simp [ev, evs, evI, evAnd, evOr, ex, start, E.isNil, setTg, bind_ok, bind_exc, bind_bad, bind_ite, bind_bind, noexc_ok, lift_some, lift_none, lift_ite, fin_ret, fin_next, cmp_eq, cmp_ne, cmp_lt, cmp_le, cmp_gt, cmp_ge, cmp_in, cmp_notIn, cmp_leS, cmp_ltS, cmp_is, cmp_isNot, in_str, eqQ_int, eqQ_str, add_int, sub_int, add_lst, add_tup, add_str, idx_lst, idx_tup, idx_str, tru_bl, tru_int, tru_lst, tru_tup, tru_str, tru_non, len_lst, len_tup, len_str, bi_int, bi_all, bi_any, bi_tuple, seq_lst, seq_tup, seq_str, tst_nil, tst_c, map_some, map_ite, isi_tup_t, isi_str_t, wipe_nil, wipe_cons, m21, m20, big2]; rfl, rfl⟩ ?_
    rintro _ rfl
    refine Nx.seq (fun ρ => ρ = [.val sc, .val (.int cell), .val (.lst xs), .val t, .val (.lst (odd1 ++ odd2 t)), e, f]) ⟨_, by simp [ev, evs, evI, evAnd, evOr, ex, start, E.isNil, setTg, bind_ok, bind_exc, bind_bad, bind_ite, bind_bind, noexc_ok, lift_some, lift_none, lift_ite, fin_ret, fin_next, cmp_eq, cmp_ne, cmp_lt, cmp_le, cmp_gt, cmp_ge, cmp_in, cmp_notIn, cmp_leS, cmp_ltS, cmp_is, cmp_isNot, in_str, eqQ_int, eqQ_str, add_int, sub_int, add_lst, add_tup, add_str, idx_lst, idx_tup, idx_str, tru_bl, tru_int, tru_lst, tru_tup, tru_str, tru_non, len_lst, len_tup, len_str, bi_int, bi_all, bi_any, bi_tuple, seq_lst, seq_tup, seq_str, tst_nil, tst_c, map_some, map_ite, isi_tup_t, isi_str_t, wipe_nil, wipe_cons, big2, odd1, odd2], rfl⟩ ?_
    rintro _ rfl
    have m4 : binQ .mul (.tup [t]) (.int 4) = some (.tup [t, t, t, t]) := rfl
    have m5 : binQ .mul (.tup [t]) (.int 5) = some (.tup [t, t, t, t, t]) := rfl
    refine Nx.seq (fun ρ => ρ = [.val sc, .val (.int cell), .val (.lst xs), .val t, .val (.lst (odd1 ++ odd2 t ++ odd3 t)), e, f]) ⟨_, by simp [ev, evs, evI, evAnd, evOr, ex, start, E.isNil, setTg, bind_ok, bind_exc, bind_bad, bind_ite, bind_bind, noexc_ok, lift_some, lift_none, lift_ite, fin_ret, fin_next, cmp_eq, cmp_ne, cmp_lt, cmp_le, cmp_gt, cmp_ge, cmp_in, cmp_notIn, cmp_leS, cmp_ltS, cmp_is, cmp_isNot, in_str, eqQ_int, eqQ_str, add_int, sub_int, add_lst, add_tup, add_str, idx_lst, idx_tup, idx_str, tru_bl, tru_int, tru_lst, tru_tup, tru_str, tru_non, len_lst, len_tup, len_str, bi_int, bi_all, bi_any, bi_tuple, seq_lst, seq_tup, seq_str, tst_nil, tst_c, map_some, map_ite, isi_tup_t, isi_str_t, wipe_nil, wipe_cons, big2, odd1, odd2, odd3, m4, m5], rfl⟩ ?_
    rintro _ rfl
    have hok : okDs (odd1 ++ odd2 t ++ odd3 t) = true := by simp [ev, evs, evI, evAnd, evOr, ex, start, E.isNil, setTg, bind_ok, bind_exc, bind_bad, bind_ite, bind_bind, noexc_ok, lift_some, lift_none, lift_ite, fin_ret, fin_next, cmp_eq, cmp_ne, cmp_lt, cmp_le, cmp_gt, cmp_ge, cmp_in, cmp_notIn, cmp_leS, cmp_ltS, cmp_is, cmp_isNot, in_str, eqQ_int, eqQ_str, add_int, sub_int, add_lst, add_tup, add_str, idx_lst, idx_tup, idx_str, tru_bl, tru_int, tru_lst, tru_tup, tru_str, tru_non, len_lst, len_tup, len_str, bi_int, bi_all, bi_any, bi_tuple, seq_lst, seq_tup, seq_str, tst_nil, tst_c, map_some, map_ite, isi_tup_t, isi_str_t, wipe_nil, wipe_cons, odd1, odd2, odd3, okD, okDs, ht]
    have hlen : (odd1 ++ odd2 t ++ odd3 t).length = 22 := rfl
    generalize odd1 ++ odd2 t ++ odd3 t = od at *
    obtain ⟨m6, e6⟩ := hD.at_ (i := 6) 6 rfl (by omega)
    obtain ⟨m7, e7⟩ := hD.at_ (i := 7) 7 rfl (by omega)
    obtain ⟨m8, e8⟩ := hD.at_ (i := 8) 8 rfl (by omega)
    obtain ⟨i6, h6, q6⟩ := modN m6 22 (by omega)
    obtain ⟨i7, h7, q7⟩ := modN m7 3 (by omega)
    obtain ⟨i8, h8, q8⟩ := modN m8 6 (by omega)
    have q6 : binQ .mod (.int (m6 : Int)) (.int 22) = some (.int (i6 : Int)) := q6
    have q7 : binQ .mod (.int (m7 : Int)) (.int 3) = some (.int (i7 : Int)) := q7
    have q8 : binQ .mod (.int (m8 : Int)) (.int 6) = some (.int (i8 : Int)) := q8
    obtain ⟨v6, a6, b6⟩ := pickD (cs := od) (i := i6) (by omega) hok
    refine Nx.seq (fun ρ => ∃ v, okD v = true ∧ ρ = [.val sc, .val (.int cell), .val (.lst xs), .val t, .val (.lst od), .val v, f]) ?_ ?_
    · by_cases hz : i7 = 0
      · exact ⟨_, by simp [ev, evs, evI, evAnd, evOr, ex, start, E.isNil, setTg, bind_ok, bind_exc, bind_bad, bind_ite, bind_bind, noexc_ok, lift_some, lift_none, lift_ite, fin_ret, fin_next, cmp_eq, cmp_ne, cmp_lt, cmp_le, cmp_gt, cmp_ge, cmp_in, cmp_notIn, cmp_leS, cmp_ltS, cmp_is, cmp_isNot, in_str, eqQ_int, eqQ_str, add_int, sub_int, add_lst, add_tup, add_str, idx_lst, idx_tup, idx_str, tru_bl, tru_int, tru_lst, tru_tup, tru_str, tru_non, len_lst, len_tup, len_str, bi_int, bi_all, bi_any, bi_tuple, seq_lst, seq_tup, seq_str, tst_nil, tst_c, map_some, map_ite, isi_tup_t, isi_str_t, wipe_nil, wipe_cons, e6, e7, q7, hz, hlen, q6, a6], v6, b6, rfl⟩
      · exact ⟨_, by simp [ev, evs, evI, evAnd, evOr, ex, start, E.isNil, setTg, bind_ok, bind_exc, bind_bad, bind_ite, bind_bind, noexc_ok, lift_some, lift_none, lift_ite, fin_ret, fin_next, cmp_eq, cmp_ne, cmp_lt, cmp_le, cmp_gt, cmp_ge, cmp_in, cmp_notIn, cmp_leS, cmp_ltS, cmp_is, cmp_isNot, in_str, eqQ_int, eqQ_str, add_int, sub_int, add_lst, add_tup, add_str, idx_lst, idx_tup, idx_str, tru_bl, tru_int, tru_lst, tru_tup, tru_str, tru_non, len_lst, len_tup, len_str, bi_int, bi_all, bi_any, bi_tuple, seq_lst, seq_tup, seq_str, tst_nil, tst_c, map_some, map_ite, isi_tup_t, isi_str_t, wipe_nil, wipe_cons, e7, q7, hz], t, ht, rfl⟩
    rintro _ ⟨v, hv, rfl⟩
    have hr : rangeQ [.int (i8 : Int)] = some (rangeL 0 (i8 : Nat)) := by
      have g1 : (-4000000000000000000 : Int) ≤ i8 := by omega
      have g2 : (i8 : Int) ≤ (big : Nat) := by have := big2 i8 (by omega); omega
      simp [ev, evs, evI, evAnd, evOr, ex, start, E.isNil, setTg, bind_ok, bind_exc, bind_bad, bind_ite, bind_bind, noexc_ok, lift_some, lift_none, lift_ite, fin_ret, fin_next, cmp_eq, cmp_ne, cmp_lt, cmp_le, cmp_gt, cmp_ge, cmp_in, cmp_notIn, cmp_leS, cmp_ltS, cmp_is, cmp_isNot, in_str, eqQ_int, eqQ_str, add_int, sub_int, add_lst, add_tup, add_str, idx_lst, idx_tup, idx_str, tru_bl, tru_int, tru_lst, tru_tup, tru_str, tru_non, len_lst, len_tup, len_str, bi_int, bi_all, bi_any, bi_tuple, seq_lst, seq_tup, seq_str, tst_nil, tst_c, map_some, map_ite, isi_tup_t, isi_str_t, wipe_nil, wipe_cons, rangeQ, g1, g2]
    refine Nx.seq (fun ρ => ∃ v g, okD v = true ∧ ρ = [.val sc, .val (.int cell), .val (.lst xs), .val t, .val (.lst od), .val v, g]) ?_ ?_
    · refine Nx.for_ (xs := rangeL 0 (i8 : Nat)) (fun j ρ => ∃ v g, okD v = true ∧ ρ = [.val sc, .val (.int cell), .val (.lst xs), .val t, .val (.lst od), .val v, g]) (by simp [ev, evs, evI, evAnd, evOr, ex, start, E.isNil, setTg, bind_ok, bind_exc, bind_bad, bind_ite, bind_bind, noexc_ok, lift_some, lift_none, lift_ite, fin_ret, fin_next, cmp_eq, cmp_ne, cmp_lt, cmp_le, cmp_gt, cmp_ge, cmp_in, cmp_notIn, cmp_leS, cmp_ltS, cmp_is, cmp_isNot, in_str, eqQ_int, eqQ_str, add_int, sub_int, add_lst, add_tup, add_str, idx_lst, idx_tup, idx_str, tru_bl, tru_int, tru_lst, tru_tup, tru_str, tru_non, len_lst, len_tup, len_str, bi_int, bi_all, bi_any, bi_tuple, seq_lst, seq_tup, seq_str, tst_nil, tst_c, map_some, map_ite, isi_tup_t, isi_str_t, wipe_nil, wipe_cons, e8, q8, hr]) ⟨v, f, hv, rfl⟩ ?_ (fun ρ h => h)
      rintro j x ρ hx ⟨v, g, hv, rfl⟩
      obtain ⟨rfl, hj⟩ := range_at hx
      refine ⟨_, rfl, ?_⟩
      obtain ⟨m9, e9⟩ := hD.at_ (i := 9 + (j : Int)) (9 + j) (by omega) (by omega)
      obtain ⟨i4, h4, q4⟩ := modN m9 4 (by omega)
      obtain ⟨i3, h3, q3⟩ := modN m9 3 (by omega)
      have q4 : binQ .mod (.int (m9 : Int)) (.int 4) = some (.int (i4 : Int)) := q4
      have q3 : binQ .mod (.int (m9 : Int)) (.int 3) = some (.int (i3 : Int)) := q3
      obtain ⟨w, a3, b3⟩ := pickD (cs := [.str [110, 111, 116], .str [105, 110], .str [104, 97, 115]]) (i := i3) h3 rfl
      refine Nx.seq (fun ρ => ∃ v g, okD v = true ∧ ρ = [.val sc, .val (.int cell), .val (.lst xs), .val t, .val (.lst od), .val v, g]) ?_ (fun ρ h => Nx.skip h)
      by_cases hz : 0 < i4
      · exact ⟨_, by simp [ev, evs, evI, evAnd, evOr, ex, start, E.isNil, setTg, bind_ok, bind_exc, bind_bad, bind_ite, bind_bind, noexc_ok, lift_some, lift_none, lift_ite, fin_ret, fin_next, cmp_eq, cmp_ne, cmp_lt, cmp_le, cmp_gt, cmp_ge, cmp_in, cmp_notIn, cmp_leS, cmp_ltS, cmp_is, cmp_isNot, in_str, eqQ_int, eqQ_str, add_int, sub_int, add_lst, add_tup, add_str, idx_lst, idx_tup, idx_str, tru_bl, tru_int, tru_lst, tru_tup, tru_str, tru_non, len_lst, len_tup, len_str, bi_int, bi_all, bi_any, bi_tuple, seq_lst, seq_tup, seq_str, tst_nil, tst_c, map_some, map_ite, isi_tup_t, isi_str_t, wipe_nil, wipe_cons, e9, q4, hz, q3, a3, big2], .tup [w, v], .val (.int j), by simp [ev, evs, evI, evAnd, evOr, ex, start, E.isNil, setTg, bind_ok, bind_exc, bind_bad, bind_ite, bind_bind, noexc_ok, lift_some, lift_none, lift_ite, fin_ret, fin_next, cmp_eq, cmp_ne, cmp_lt, cmp_le, cmp_gt, cmp_ge, cmp_in, cmp_notIn, cmp_leS, cmp_ltS, cmp_is, cmp_isNot, in_str, eqQ_int, eqQ_str, add_int, sub_int, add_lst, add_tup, add_str, idx_lst, idx_tup, idx_str, tru_bl, tru_int, tru_lst, tru_tup, tru_str, tru_non, len_lst, len_tup, len_str, bi_int, bi_all, bi_any, bi_tuple, seq_lst, seq_tup, seq_str, tst_nil, tst_c, map_some, map_ite, isi_tup_t, isi_str_t, wipe_nil, wipe_cons, okD, okDs, b3, hv], rfl⟩
      · exact ⟨_, by simp [ev, evs, evI, evAnd, evOr, ex, start, E.isNil, setTg, bind_ok, bind_exc, bind_bad, bind_ite, bind_bind, noexc_ok, lift_some, lift_none, lift_ite, fin_ret, fin_next, cmp_eq, cmp_ne, cmp_lt, cmp_le, cmp_gt, cmp_ge, cmp_in, cmp_notIn, cmp_leS, cmp_ltS, cmp_is, cmp_isNot, in_str, eqQ_int, eqQ_str, add_int, sub_int, add_lst, add_tup, add_str, idx_lst, idx_tup, idx_str, tru_bl, tru_int, tru_lst, tru_tup, tru_str, tru_non, len_lst, len_tup, len_str, bi_int, bi_all, bi_any, bi_tuple, seq_lst, seq_tup, seq_str, tst_nil, tst_c, map_some, map_ite, isi_tup_t, isi_str_t, wipe_nil, wipe_cons, e9, q4, hz, q3, a3, big2], .tup [.str [98, 111, 116, 104], .tup [.tup [.str [97, 110, 121]], v]], .val (.int j), by simp [ev, evs, evI, evAnd, evOr, ex, start, E.isNil, setTg, bind_ok, bind_exc, bind_bad, bind_ite, bind_bind, noexc_ok, lift_some, lift_none, lift_ite, fin_ret, fin_next, cmp_eq, cmp_ne, cmp_lt, cmp_le, cmp_gt, cmp_ge, cmp_in, cmp_notIn, cmp_leS, cmp_ltS, cmp_is, cmp_isNot, in_str, eqQ_int, eqQ_str, add_int, sub_int, add_lst, add_tup, add_str, idx_lst, idx_tup, idx_str, tru_bl, tru_int, tru_lst, tru_tup, tru_str, tru_non, len_lst, len_tup, len_str, bi_int, bi_all, bi_any, bi_tuple, seq_lst, seq_tup, seq_str, tst_nil, tst_c, map_some, map_ite, isi_tup_t, isi_str_t, wipe_nil, wipe_cons, okD, okDs, hv], rfl⟩
    rintro _ ⟨v, g, hv, rfl⟩
    have c1 : callK GG CC 0 39 I_queries_is_test [v] M = .ok (D.bl (takes 6 v)) M := call_is_test (k := 23) hv
    have c2 : callK GG CC 0 39 I_l_law_takes [v, .int 6] M = .ok (D.bl (takes 6 v)) M := call_takes 6 31 v M hv
    refine Nx.seq (fun ρ => ∃ a b c d e f, ρ = [.val sc, a, b, c, d, e, f]) ?_ (fun ρ h => Nx.skip h)
    refine Nx.ite (d := D.bl false) (by simp [ev, evs, evI, evAnd, evOr, ex, start, E.isNil, setTg, bind_ok, bind_exc, bind_bad, bind_ite, bind_bind, noexc_ok, lift_some, lift_none, lift_ite, fin_ret, fin_next, cmp_eq, cmp_ne, cmp_lt, cmp_le, cmp_gt, cmp_ge, cmp_in, cmp_notIn, cmp_leS, cmp_ltS, cmp_is, cmp_isNot, in_str, eqQ_int, eqQ_str, add_int, sub_int, add_lst, add_tup, add_str, idx_lst, idx_tup, idx_str, tru_bl, tru_int, tru_lst, tru_tup, tru_str, tru_non, len_lst, len_tup, len_str, bi_int, bi_all, bi_any, bi_tuple, seq_lst, seq_tup, seq_str, tst_nil, tst_c, map_some, map_ite, isi_tup_t, isi_str_t, wipe_nil, wipe_cons, c1, c2, ne_same (M := M)]) rfl (fun h => by cases h) (fun _ => Nx.skip ⟨_, _, _, _, _, _, rfl⟩)
  rintro _ ⟨a, b, c, d, e, f, rfl⟩
  exact Post.retSeq (s := .skip) rfl rfl
end Ev

open PySem PySem.W PyProof.Rows
set_option maxHeartbeats 0 in
theorem PySem.Challenge.cw_lookon_k00_queries_exactly_what_is_a_tes_holds : PySem.Challenge.rw_lookon_k00_queries_exactly_what_is_a_tes.Holds := by
  w_on; o_law; k_head; (case hw => w_witness2)
  k_fill
  refine Ev.walk_E (l := PySem.Challenge.rw_lookon_k00_queries_exactly_what_is_a_tes) (n := 63) (k := Ev.lawK) (fu := Ev.lawFu) (f := 1000) (T := Ev.txtOf Ev.ftab Ev.ctab) (G := Ev.GG) (con := Ev.CC) (fd := Ev.F_l_law) (x := "script") rfl (by decide) rfl ⟨rfl, by decide, by decide⟩ (fun w h Y => PySem.W.kIn_of Y) rfl rfl rfl ?TT Ev.law_ev
  case TT =>
    intro w mg fa h KX G hmg
    refine' Ev.all_mk KX G ?a0 ?l0 ?c0 ?k0 ?a1 ?l1 ?c1 ?k1 ?a2 ?l2 ?c2 ?k2 ?a3 ?l3 ?c3 ?k3 ?a4 ?l4 ?c4 ?k4 ?a5 ?l5 ?c5 ?k5 ?a6 ?l6 ?c6 ?k6 ?a7 ?l7 ?c7 ?k7 ?a8 ?l8 ?c8 ?k8 ?a9 ?l9 ?c9 ?k9 ?a10 ?l10 ?c10 ?k10 ?a11 ?l11 ?c11 ?k11 ?a12 ?l12 ?c12 ?k12 ?d0 ?q0 ?ht1_0 ?lt1_0 ?q1 ?ht2_0 ?lt2_0 ?q2 ?ht3_0 ?lt3_0 ?q3 ?ht4_0 ?lt4_0 ?q4 ?d5 ?q5 ?d6 ?q6 ?d7 ?q7 ?d8 ?q8 ?d9 ?q9 ?z0 ?z1 ?z2 ?z3 ?z4 ?z5 ?z6 ?z7 ?z8 ?z9 ?z10 ?z11 ?z12 ?z13 ?z14 ?z15 ?z16 ?z17 ?z18
    (case a0 => k_is); (case l0 => k_is); (case c0 => k_is); (case k0 => k_is); (case a1 => k_is); (case l1 => k_is); (case c1 => k_is); (case k1 => k_is); (case a2 => k_is); (case l2 => k_is); (case c2 => k_is); (case k2 => k_is); (case a3 => k_is); (case l3 => k_is); (case c3 => k_is); (case k3 => k_is); (case a4 => k_is); (case l4 => k_is); (case c4 => k_is); (case k4 => k_is); (case a5 => k_is); (case l5 => k_is); (case c5 => k_is); (case k5 => k_is); (case a6 => k_is); (case l6 => k_is); (case c6 => k_is); (case k6 => k_is); (case a7 => k_is); (case l7 => k_is); (case c7 => k_is); (case k7 => k_is); (case a8 => k_is); (case l8 => k_is); (case c8 => k_is); (case k8 => k_is); (case a9 => k_is); (case l9 => k_is); (case c9 => k_is); (case k9 => k_is); (case a10 => k_is); (case l10 => k_is); (case c10 => k_is); (case k10 => k_is); (case a11 => k_is); (case l11 => k_is); (case c11 => k_is); (case k11 => k_is); (case a12 => k_is); (case l12 => k_is); (case c12 => k_is); (case k12 => k_is); (case d0 => k_is); (case q0 => exact rfl); (case ht1_0 => k_is); (case lt1_0 => k_is); (case q1 => exact rfl); (case ht2_0 => k_is); (case lt2_0 => k_is); (case q2 => exact rfl); (case ht3_0 => k_is); (case lt3_0 => k_is); (case q3 => exact rfl); (case ht4_0 => k_is); (case lt4_0 => k_is); (case q4 => exact rfl); (case d5 => k_is); (case q5 => exact rfl); (case d6 => k_is); (case q6 => exact rfl); (case d7 => k_is); (case q7 => exact rfl); (case d8 => k_is); (case q8 => exact rfl); (case d9 => k_is); (case q9 => exact rfl); (case z0 => k_is); (case z1 => k_is); (case z2 => k_is); (case z3 => k_is); (case z4 => k_is); (case z5 => k_is); (case z6 => k_is); (case z7 => k_is); (case z8 => k_is); (case z9 => k_is); (case z10 => k_is); (case z11 => k_is); (case z12 => k_is); (case z13 => k_is); (case z14 => k_is); (case z15 => k_is); (case z16 => k_is); (case z17 => k_is); (case z18 => k_is)

