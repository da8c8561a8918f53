import PyProof.Rows.All
import Wide.All
import OpenK.AllK
import Wide.FinOn
import HandS.HeadHook2
import HandS.HeadEnd
import HandS.ExcField
import HandS.Head3
import HandS.Words
import HandS.ForMost
import HandS.ForExc
import HandS.Defaults
import HandS.Gcd
import HandS.IsInst
import HandS.Zip
import HandS.Wide
import HandS.TupAny
import HandS.Flow
import HandS.Style
import HandS.CallRecv
import HandS.HeadWalk
import OpenK.KMeth
import HandS.OwnEq
import HandS.More
import HandS.WideBits
import HandS.TupMul
import HandS.SortInts
import OpenK.KOps
import HandS.Iter
import HandS.Comp
import HandS.NoneIn
import HandS.ExcOwn
import PySem.Challenge.RW_similarroads_k67_square_matrices
set_option autoImplicit false
set_option linter.all false
/-! Pi: a small pure evaluator for the part of Python that the program and its laws are written in. -/
namespace Pi
open PySem (Str)

/-- values: tuples, frozen lists, instances as trees; a cell is a list (or an instance being made) that is still written -/
inductive D where
  | non
  | bl (b : Bool)
  | int (i : Int)
  | str (s : Str)
  | tup (xs : List D)
  | lst (xs : List D)
  | arg (xs : List D)
  | cell (k : Nat)
  | ins (c : Nat) (fs : List D)
  | fn (i : Nat)
  | cls (c : Nat)
deriving Inhabited

mutual
def D.beq : D → D → Bool
  | .non, .non => true
  | .bl a, .bl b => a == b
  | .int a, .int b => decide (a = b)
  | .str a, .str b => decide (a = b)
  | .tup a, .tup b => D.beqs a b
  | .lst a, .lst b => D.beqs a b
  | .arg a, .arg b => D.beqs a b
  | .cell a, .cell b => a == b
  | .ins c a, .ins d b => c == d && D.beqs a b
  | .fn a, .fn b => a == b
  | .cls a, .cls b => a == b
  | _, _ => false
def D.beqs : List D → List D → Bool
  | [], [] => true
  | a :: r, b :: s => D.beq a b && D.beqs r s
  | _, _ => false
end
mutual
theorem D.beq_eq : ∀ {a b : D}, D.beq a b = true → a = b
  | .non, b, h => by cases b <;> simp_all [D.beq]
  | .bl _, b, h => by cases b <;> simp_all [D.beq]
  | .int _, b, h => by cases b <;> simp_all [D.beq]
  | .str _, b, h => by cases b <;> simp_all [D.beq]
  | .tup x, b, h => by
    cases b <;> simp only [D.beq, Bool.false_eq_true] at h
    rw [D.beqs_eq h]
  | .lst x, b, h => by
    cases b <;> simp only [D.beq, Bool.false_eq_true] at h
    rw [D.beqs_eq h]
  | .arg x, b, h => by
    cases b <;> simp only [D.beq, Bool.false_eq_true] at h
    rw [D.beqs_eq h]
  | .cell _, b, h => by cases b <;> simp_all [D.beq]
  | .ins c x, b, h => by
    cases b <;> simp only [D.beq, Bool.false_eq_true] at h
    rw [Bool.and_eq_true] at h
    rw [D.beqs_eq h.2, beq_iff_eq.mp h.1]
  | .fn _, b, h => by cases b <;> simp_all [D.beq]
  | .cls _, b, h => by cases b <;> simp_all [D.beq]
theorem D.beqs_eq : ∀ {a b : List D}, D.beqs a b = true → a = b
  | [], [], _ => rfl
  | [], _ :: _, h => by simp [D.beqs] at h
  | _ :: _, [], h => by simp [D.beqs] at h
  | x :: xs, y :: ys, h => by
    simp only [D.beqs, Bool.and_eq_true] at h
    rw [D.beq_eq h.1, D.beqs_eq h.2]
end
mutual
theorem D.beq_rfl : ∀ a : D, D.beq a a = true
  | .non => rfl
  | .bl _ => by simp [D.beq]
  | .int _ => by simp [D.beq]
  | .str _ => by simp [D.beq]
  | .tup x => by simp only [D.beq]; exact D.beqs_rfl x
  | .lst x => by simp only [D.beq]; exact D.beqs_rfl x
  | .arg x => by simp only [D.beq]; exact D.beqs_rfl x
  | .cell _ => by simp [D.beq]
  | .ins c x => by simp only [D.beq, D.beqs_rfl x]; simp
  | .fn _ => by simp [D.beq]
  | .cls _ => by simp [D.beq]
theorem D.beqs_rfl : ∀ a : List D, D.beqs a a = true
  | [] => rfl
  | x :: xs => by simp only [D.beqs, D.beq_rfl x, D.beqs_rfl xs]; rfl
end
instance : DecidableEq D := fun a b => if h : D.beq a b = true then .isTrue (D.beq_eq h) else .isFalse fun e => h (e ▸ D.beq_rfl a)

inductive Cel where
  | lst (xs : List D)
  | obj (c : Nat) (fs : List (Nat × D))
deriving Inhabited, DecidableEq
abbrev Mu := List Cel
abbrev En := List (Option D)

theorem nr {α : Sort _} {a b : α} (h : a = b) : a = b := h
/-- what an expression gives -/
inductive Out (α : Type) where
  | ok (a : α) (μ : Mu)
  | ex (c : Nat) (fs : List D) (μ : Mu)
  | stuck
def Out.bind {α β : Type} (o : Out α) (f : α → Mu → Out β) : Out β := match o with
  | .ok a μ => f a μ
  | .ex c fs μ => .ex c fs μ
  | .stuck => .stuck
@[simp] theorem Out.bind_ok {α β : Type} (a : α) (μ : Mu) (f : α → Mu → Out β) : (Out.ok a μ).bind f = f a μ := nr rfl
@[simp] theorem Out.bind_ex {α β : Type} (c : Nat) (fs : List D) (μ : Mu) (f : α → Mu → Out β) : (Out.ex c fs μ : Out α).bind f = .ex c fs μ := nr rfl
@[simp] theorem Out.bind_stuck {α β : Type} (f : α → Mu → Out β) : (Out.stuck : Out α).bind f = .stuck := nr rfl

inductive BOp where
  | add | sub | mul | fdiv | mod | pow
deriving DecidableEq, Inhabited
inductive COp where
  | eq | ne | lt | le | gt | ge | is | isnot | isin | notin
deriving DecidableEq, Inhabited
inductive Ty where
  | int | bool | str | list | tuple | dict | own (c : Nat)
deriving DecidableEq, Inhabited
inductive Pr where
  | len | list | tuple | sum | all | any | max2 | min2 | abs | int | str | gcd | sorted
  | append | pop | popAt | extend | remove | index | join | zfill
deriving DecidableEq, Inhabited

inductive Tg where
  | name (i : Nat)
  | tup (ts : List Tg)
deriving Inhabited

/-- what a for walks -/
inductive Wk (α : Type) where
  | seq (e : α)
  | range (es : List α)
  | zip (a b : α)
  | enum (a : α)
deriving Inhabited

inductive IE where
  | bad
  | cst (d : D)
  | var (i : Nat)
  | glb (d : D)
  | bin (c : Bool) (op : BOp) (a b : IE)
  | neg (a : IE)
  | cmp (op : COp) (a b : IE)
  | cmp2 (op op' : COp) (a b c : IE)
  | and (a b : IE)
  | or (a b : IE)
  | not (a : IE)
  | ite (t a b : IE)
  | tup (es : List IE)
  | lst (c : Bool) (es : List IE)
  | call (f : Nat) (es : List IE)
  | mk (c : Nat) (es : List IE)
  | callv (i : Nat) (es : List IE)
  | meth (m : Nat) (o : IE) (es : List IE)
  | prim (c : Bool) (p : Pr) (es : List IE)
  | bm (c : Bool) (p : Pr) (o : IE) (es : List IE)
  | isin (e : IE) (ts : List Ty)
  | attr (o : IE) (f : Nat)
  | sub (a i : IE)
  | slice (c : Bool) (a : IE) (lo hi : Option IE)
  | rev (c : Bool) (a : IE)
  | comp (c : Bool) (own : List Nat) (tg : Tg) (it : Wk IE) (cond : Option IE) (elt : IE)
  | comp2 (c : Bool) (own own1 : List Nat) (tg : Tg) (it : Wk IE) (tg1 : Tg) (it1 : Wk IE) (cond : Option IE) (elt : IE)
deriving Inhabited

inductive Tgt where
  | name (i : Nat)
  | tup (ts : List Tgt)
  | sub (a i : IE)
  | attr (a : IE) (f : Nat)
deriving Inhabited

/-- the suites of an except clause -/
inductive HB where
  | ret (d : D)
  | fld (v f : Nat)
  | eqf (v f : Nat) (x : Str)
deriving Inhabited

inductive IS where
  | bad
  | expr (e : IE)
  | asg (t : Tgt) (e : IE)
  | aug (i : Nat) (op : BOp) (e : IE)
  | ret (e : IE)
  | ite (t : IE) (a b : List IS)
  | whl (t : IE) (b : List IS)
  | for (tg : Tg) (it : Wk IE) (b : List IS)
  | brk
  | cnt
  | pass
  | raise (c : Nat) (es : List IE)
  | try (b : List IS) (hs : List (Nat × HB))
deriving Inhabited

inductive Mode where
  | pure | drop | keep
deriving DecidableEq, Inhabited

structure Fn where
  npar : Nat
  nloc : Nat
  dfl : List D
  mode : Mode
  code : List IS
deriving Inhabited
structure Kl where
  exc : Bool
  flds : List Nat
  init : Nat
  meths : List (Nat × Nat)
  sup : List Nat
deriving Inhabited
structure Tab where
  fns : List Fn
  cls : List Kl
  nms : List Str
deriving Inhabited

inductive SOut where
  | next (env : En) (μ : Mu)
  | ret (d : D) (μ : Mu)
  | brk (env : En) (μ : Mu)
  | cnt (env : En) (μ : Mu)
  | ex (c : Nat) (fs : List D) (env : En) (μ : Mu)
  | stuck

/-! ### small parts -/
def lookN {α : Type} (x : Nat) : List (Nat × α) → Option α
  | [] => none
  | (y, a) :: r => if x = y then some a else lookN x r
def putN {α : Type} (x : Nat) (v : α) : List (Nat × α) → List (Nat × α)
  | [] => [(x, v)]
  | (y, a) :: r => if y = x then (y, v) :: r else (y, a) :: putN x v r
/-- the place of a number in a list -/
def placeN (x : Nat) : List Nat → Option Nat
  | [] => none
  | y :: r => if x = y then some 0 else (placeN x r).map (· + 1)
/-- the items of a list or a tuple -/
def items (μ : Mu) : D → Option (List D)
  | .tup xs => some xs
  | .lst xs => some xs
  | .arg xs => some xs
  | .cell k => match μ[k]? with
    | some (.lst xs) => some xs
    | _ => none
  | _ => none
def isList (μ : Mu) : D → Option (List D)
  | .lst xs => some xs
  | .cell k => match μ[k]? with
    | some (.lst xs) => some xs
    | _ => none
  | _ => none
def big : Nat := 16777216
/-- a new list -/
def newL (c : Bool) (xs : List D) (μ : Mu) : Out D := if big < xs.length then .stuck else if c then .ok (.cell μ.length) (μ ++ [.lst xs]) else .ok (.lst xs) μ
def newT (xs : List D) (μ : Mu) : Out D := if big < xs.length then .stuck else .ok (.tup xs) μ
def allInts : List D → Option (List Int)
  | [] => some []
  | .int i :: r => (allInts r).map (i :: ·)
  | _ => none
def allBls : List D → Option (List Bool)
  | [] => some []
  | .bl i :: r => (allBls r).map (i :: ·)
  | _ => none
/-- truth -/
def truth (μ : Mu) : D → Option Bool
  | .non => some false
  | .bl b => some b
  | .int i => some (i != 0)
  | .tup xs => some (!xs.isEmpty)
  | .lst xs => some (!xs.isEmpty)
  | .cell k => match μ[k]? with
    | some (.lst xs) => some (!xs.isEmpty)
    | _ => none
  | _ => none
/-- the place that an index means -/
def ixOf (n : Nat) (i : Int) : Option Nat := if 0 ≤ i then (if i < n then some i.toNat else none) else if -(n : Int) ≤ i then some (i + n).toNat else none
def clampIx (n : Nat) (d : Nat) : Option Int → Nat
  | none => d
  | some i => if i < 0 then (i + n).toNat else if (n : Int) < i then n else i.toNat
def cut (xs : List D) (lo hi : Option Int) : List D := (xs.drop (clampIx xs.length 0 lo)).take (clampIx xs.length xs.length hi - clampIx xs.length 0 lo)
def mulBits : Nat := 100000000
def okMul (i j : Int) : Bool := decide (i.natAbs < 18446744073709551616) || decide (j.natAbs < 18446744073709551616) || decide (i.natAbs.log2 + j.natAbs.log2 < mulBits)
def rangeLine : Int := 4611686018427387904
def okR (i : Int) : Bool := decide (-rangeLine ≤ i) && decide (i < rangeLine)
/-- lo, lo + c, ..: n items -/
def countUp (lo c : Int) : Nat → List D
  | 0 => []
  | n + 1 => .int lo :: countUp (lo + c) c n
def binI (op : BOp) (i j : Int) : Option Int := match op with
  | .add => some (i + j)
  | .sub => some (i - j)
  | .mul => if okMul i j then some (i * j) else none
  | .fdiv => if j ≠ 0 ∧ j.natAbs.log2 < 9000 then some (i.fdiv j) else none
  | .mod => if j = 0 then none else some (i.fmod j)
  | .pow => if 0 ≤ j ∧ j ≤ 1000000 ∧ i.natAbs < 18446744073709551616 then some (i ^ j.toNat) else none
/-- the same item in a frozen value, behind the cells from n₀ on -/
def fz (μ : Mu) (n₀ : Nat) : Nat → D → Option D
  | 0, _ => none
  | m + 1, .cell k => if k < n₀ then some (.cell k) else match μ[k]? with
    | some (.lst xs) => (xs.mapM (fz μ n₀ m)).map .lst
    | _ => none
  | m + 1, .tup xs => (xs.mapM (fz μ n₀ m)).map .tup
  | m + 1, .lst xs => (xs.mapM (fz μ n₀ m)).map .lst
  | m + 1, .arg xs => (xs.mapM (fz μ n₀ m)).map .arg
  | m + 1, .ins c xs => (xs.mapM (fz μ n₀ m)).map (.ins c)
  | _ + 1, d => some d
def fzN : Nat := 12
/-- no cell from n₀ on -/
def okD (n₀ : Nat) : Nat → D → Bool
  | 0, _ => false
  | _ + 1, .cell k => decide (k < n₀)
  | m + 1, .tup xs => xs.all (okD n₀ m)
  | m + 1, .lst xs => xs.all (okD n₀ m)
  | m + 1, .arg xs => xs.all (okD n₀ m)
  | m + 1, .ins _ xs => xs.all (okD n₀ m)
  | _ + 1, _ => true
def okC (n₀ : Nat) : Cel → Bool
  | .lst xs => xs.all (okD n₀ fzN)
  | .obj _ fs => fs.all fun q => okD n₀ fzN q.2

/-! ### calls -/
/-- how a def is called: the cells below lo are kept, the def, its arguments -/
abbrev Cll := Nat → Nat → List D → Mu → Out D
section
variable (T : Tab) (cl : Cll) (lo : Nat)
/-- the arguments with the defaults behind them -/
def fillD (f : Fn) (ds : List D) : List D := ds ++ f.dfl.drop (f.dfl.length - (f.npar - ds.length))
def callF (f : Nat) (ds : List D) (μ : Mu) : Out D := match T.fns[f]? with
  | some F => cl lo f (fillD F ds) μ
  | none => .stuck
/-- the def that a method's name means for a receiver -/
def recvM (m : Nat) (o : D) (μ : Mu) : Option Nat := match o with
  | .ins c _ => (match T.cls[c]? with
    | some C => if C.exc then none else lookN m C.meths
    | none => none)
  | .cell k => (match μ[k]? with
    | some (.obj c fs) => (match T.cls[c]? with
      | some C => if C.exc || !(fs.all fun q => C.flds.contains q.1) then none else lookN m C.meths
      | none => none)
    | _ => none)
  | _ => none
def callM (m : Nat) (o : D) (ds : List D) (μ : Mu) : Out D := match recvM T m o μ with
  | some f => callF T cl lo f (o :: ds) μ
  | none => .stuck
/-- C(..): the instance is a cell while its __init__ runs -/
def makeI (c : Nat) (ds : List D) (μ : Mu) : Out D := match T.cls[c]? with
  | some C => if C.exc then .stuck else (match callF T cl μ.length C.init (.cell μ.length :: ds) (μ ++ [.obj c []]) with
    | .ok .non μ' => (match μ'[μ.length]? with
      | some (.obj c' fs) => if c' = c ∧ fs.map (·.1) = C.flds ∧ (fs.all fun q => okD μ.length fzN q.2) = true then .ok (.ins c (fs.map (·.2))) μ else .stuck
      | _ => .stuck)
    | .ex x fs _ => if fs.all (okD μ.length fzN) then .ex x fs μ else .stuck
    | _ => .stuck)
  | none => .stuck
def okV (f : D) : Bool := match f with
  | .fn i => (T.fns[i]?).isSome
  | .cls c => match T.cls[c]? with
    | some C => !C.exc
    | none => false
  | _ => false
def callV (f : D) (ds : List D) (μ : Mu) : Out D := match f with
  | .fn i => callF T cl lo i ds μ
  | .cls c => makeI T cl c ds μ
  | _ => .stuck

/-! ### equality -/
def allEq (f : D → D → Option Bool) : List D → List D → Option Bool
  | [], [] => some true
  | x :: xs, y :: ys => match f x y with
    | some true => allEq f xs ys
    | some false => some false
    | none => none
  | _, _ => some false
/-- two values that no object can both stand for -/
def aparts (f : D → D → Bool) : List D → List D → Bool
  | x :: xs, y :: ys => f x y || aparts f xs ys
  | _, _ => false
def apart : Nat → D → D → Bool
  | 0, _, _ => false
  | _ + 1, .int i, .int j => decide (i ≠ j)
  | _ + 1, .bl i, .bl j => i != j
  | _ + 1, .str i, .str j => decide (i ≠ j)
  | n + 1, .tup xs, .tup ys => decide (xs.length ≠ ys.length) || aparts (apart n) xs ys
  | n + 1, .ins c xs, .ins c' ys => decide (c = c') && aparts (apart n) xs ys
  | _ + 1, _, _ => false
def apN : Nat := 5
/-- the kind of a built-in value -/
inductive Kd where
  | non | bl | int | str | tup | lst
deriving DecidableEq, Inhabited
def kindD (μ : Mu) : D → Option Kd
  | .non => some .non
  | .bl _ => some .bl
  | .int _ => some .int
  | .str _ => some .str
  | .tup _ => some .tup
  | .lst _ => some .lst
  | .cell k => match μ[k]? with
    | some (.lst _) => some .lst
    | _ => none
  | _ => none
def seqK : Kd → Bool
  | .tup => true
  | .lst => true
  | _ => false
def mixK (a b : Kd) : Bool := (seqK a || seqK b) && decide (a ≠ b)
def mixV (μ : Mu) (d e : D) : Option Bool := match kindD μ d, kindD μ e with
  | some a, some b => if mixK a b then some false else none
  | _, _ => none
/-- an instance and something of another kind -/
def insV (μ : Mu) (d e : D) : Option Bool := match kindD μ e with
  | some _ => (match recvM T 0 d μ with
    | some f => (match callF T cl μ.length f [d, e] μ with
      | .ok (.bl false) _ => some false
      | _ => none)
    | none => none)
  | none => none
def eqv (μ : Mu) : Nat → D → D → Option Bool
  | 0, _, _ => none
  | n + 1, .ins c fs, .ins c' gs => if c = c' then (match recvM T 0 (.ins c fs) μ with
    | some f => (match callF T cl μ.length f [.ins c fs, .ins c gs] μ with
      | .ok (.bl b) _ => if b then some true else if aparts (apart apN) fs gs then some false else none
      | _ => none)
    | none => none) else none
  | n + 1, .tup xs, .tup ys => allEq (eqv μ n) xs ys
  | n + 1, .lst xs, .lst ys => if xs.length = ys.length then allEq (eqv μ n) xs ys else some false
  | n + 1, .cell k, .lst ys => match μ[k]? with
    | some (.lst xs) => if xs.length = ys.length then allEq (eqv μ n) xs ys else some false
    | _ => none
  | n + 1, .lst xs, .cell k => match μ[k]? with
    | some (.lst ys) => if xs.length = ys.length then allEq (eqv μ n) xs ys else some false
    | _ => none
  | _ + 1, .non, .non => some true
  | _ + 1, .bl a, .bl b => some (a == b)
  | _ + 1, .int a, .int b => some (decide (a = b))
  | _ + 1, .str a, .str b => some (decide (a = b))
  | _ + 1, .non, .bl _ => some false
  | _ + 1, .non, .int _ => some false
  | _ + 1, .non, .str _ => some false
  | _ + 1, .bl _, .non => some false
  | _ + 1, .int _, .non => some false
  | _ + 1, .str _, .non => some false
  | _ + 1, .bl _, .str _ => some false
  | _ + 1, .str _, .bl _ => some false
  | _ + 1, .int _, .str _ => some false
  | _ + 1, .str _, .int _ => some false
  | _ + 1, .ins c fs, e => insV T cl μ (.ins c fs) e
  | _ + 1, d, e => mixV μ d e
def eqN : Nat := 6
/-- x in a list or a tuple: the items from the left -/
def inL (f : D → D → Option Bool) (x : D) : List D → Option Bool
  | [] => some false
  | y :: ys => match f y x with
    | some true => some true
    | some false => inL f x ys
    | none => none
/-- one sign in a text -/
def inS (a b : Str) : Option Bool := match a.cps.toList with
  | [c] => some (decide (c ∈ b.cps.toList))
  | _ => none
def cmpD (op : COp) (a b : D) (μ : Mu) : Out D := match op with
  | .eq => (match eqv T cl μ eqN a b with
    | some k => .ok (.bl k) μ
    | none => .stuck)
  | .ne => (match eqv T cl μ eqN a b with
    | some k => .ok (.bl (!k)) μ
    | none => .stuck)
  | .is => (match a, b with
    | .bl x, .bl y => .ok (.bl (decide (x = y))) μ
    | x, .non => .ok (.bl (decide (x = .non))) μ
    | _, _ => .stuck)
  | .isnot => (match a, b with
    | .bl x, .bl y => .ok (.bl (!decide (x = y))) μ
    | x, .non => .ok (.bl (!decide (x = .non))) μ
    | _, _ => .stuck)
  | .isin => (match b with
    | .str z => (match a with
      | .str x => (match inS x z with
        | some k => .ok (.bl k) μ
        | none => .stuck)
      | _ => .stuck)
    | _ => (match items μ b with
      | some ys => (match inL (eqv T cl μ eqN) a ys with
        | some k => .ok (.bl k) μ
        | none => .stuck)
      | none => .stuck))
  | .notin => (match b with
    | .str z => (match a with
      | .str x => (match inS x z with
        | some k => .ok (.bl (!k)) μ
        | none => .stuck)
      | _ => .stuck)
    | _ => (match items μ b with
      | some ys => (match inL (eqv T cl μ eqN) a ys with
        | some k => .ok (.bl (!k)) μ
        | none => .stuck)
      | none => .stuck))
  | .lt => (match a, b with
    | .int i, .int j => .ok (.bl (decide (i < j))) μ
    | _, _ => .stuck)
  | .le => (match a, b with
    | .int i, .int j => .ok (.bl (decide (i ≤ j))) μ
    | _, _ => .stuck)
  | .gt => (match a, b with
    | .int i, .int j => .ok (.bl (decide (j < i))) μ
    | _, _ => .stuck)
  | .ge => (match a, b with
    | .int i, .int j => .ok (.bl (decide (j ≤ i))) μ
    | _, _ => .stuck)

/-! ### operators -/
def opM : BOp → Nat
  | .add => 1
  | .sub => 2
  | .mul => 3
  | .fdiv => 4
  | .mod => 5
  | .pow => 6
def binD (c : Bool) (op : BOp) (a b : D) (μ : Mu) : Out D := match a with
  | .int i => (match b with
    | .int j => (match binI op i j with
      | some k => .ok (.int k) μ
      | none => .stuck)
    | _ => .stuck)
  | .str x => (match b, op with
    | .str y, .add => if x.length + y.length ≤ big then .ok (.str (x ++ y)) μ else .stuck
    | _, _ => .stuck)
  | .tup xs => (match b, op with
    | .tup ys, .add => newT (xs ++ ys) μ
    | .int k, .mul => if xs ≠ [] ∧ 2 ≤ k ∧ k ≤ 1000 ∧ xs.length ≤ 1000 then newT (List.replicate k.toNat xs).flatten μ else .stuck
    | _, _ => .stuck)
  | .ins c _ => (match b with
    | .ins c' _ => if c = c' then callM T cl lo (opM op) a [b] μ else .stuck
    | _ => .stuck)
  | _ => (match isList μ a with
    | some xs => (match op with
      | .add => (match isList μ b with
        | some ys => newL c (xs ++ ys) μ
        | none => .stuck)
      | .mul => (match b with
        | .int k => if xs.length * k.toNat ≤ big ∧ okR k = true then newL c (List.replicate k.toNat xs).flatten μ else .stuck
        | _ => .stuck)
      | _ => .stuck)
    | none => .stuck)
def isK (κ : Kd) : Ty → Bool
  | .int => decide (κ = .int) || decide (κ = .bl)
  | .bool => decide (κ = .bl)
  | .str => decide (κ = .str)
  | .list => decide (κ = .lst)
  | .tuple => decide (κ = .tup)
  | .dict => false
  | .own _ => false
def isC (c : Nat) : Ty → Bool
  | .own c' => decide (c' = c)
  | _ => false
def insC (μ : Mu) : D → Option Nat
  | .ins c _ => some c
  | .cell k => match μ[k]? with
    | some (.obj c _) => some c
    | _ => none
  | _ => none
def isTy (μ : Mu) (d : D) (t : Ty) : Option Bool := match kindD μ d with
  | some κ => some (isK κ t)
  | none => (match insC μ d with
    | some c => (match T.cls[c]? with
      | some C => if C.exc then none else some (isC c t)
      | none => none)
    | none => none)
def anyTy (μ : Mu) (d : D) : List Ty → Option Bool
  | [] => some false
  | t :: r => match isTy T μ d t with
    | some true => some true
    | some false => anyTy μ d r
    | none => none
/-- a list is written -/
def wrL (d : D) (μ : Mu) (f : List D → Option (List D)) : Option Mu := match d with
  | .cell k => if lo ≤ k then (match μ[k]? with
    | some (.lst xs) => (match f xs with
      | some ys => some (μ.set k (.lst ys))
      | none => none)
    | _ => none) else none
  | _ => none
def sortI (ns : List Int) : List Int := ns.mergeSort (fun a b => decide (a ≤ b))
def idxL (f : D → D → Option Bool) (x : D) : Nat → List D → Option Nat
  | _, [] => none
  | i, y :: ys => match f y x with
    | some true => some i
    | some false => idxL f x (i + 1) ys
    | none => none
def lenI (o : Out D) : Out D := match o with
  | .ok (.int i) μ => if 0 ≤ i ∧ okR i = true then .ok (.int i) μ else .stuck
  | .ex c fs μ => .ex c fs μ
  | _ => .stuck
def prD (c : Bool) (p : Pr) (ds : List D) (μ : Mu) : Out D := match p, ds with
  | .len, [.str s] => if s.length ≤ big then .ok (.int s.length) μ else .stuck
  | .len, [.ins k fs] => lenI (callM T cl lo 7 (.ins k fs) [] μ)
  | .len, [d] => (match items μ d with
    | some xs => .ok (.int xs.length) μ
    | none => .stuck)
  | .list, [d] => (match items μ d with
    | some xs => newL c xs μ
    | none => .stuck)
  | .tuple, [d] => (match items μ d with
    | some xs => newT xs μ
    | none => .stuck)
  | .sum, [d] => (match isList μ d with
    | some xs => (match allInts xs with
      | some ns => .ok (.int ns.sum) μ
      | none => .stuck)
    | none => .stuck)
  | .all, [d] => (match isList μ d with
    | some xs => (match allBls xs with
      | some bs => .ok (.bl (bs.all id)) μ
      | none => .stuck)
    | none => .stuck)
  | .any, [d] => (match isList μ d with
    | some xs => (match allBls xs with
      | some bs => .ok (.bl (bs.any id)) μ
      | none => .stuck)
    | none => .stuck)
  | .max2, [.int i, .int j] => .ok (.int (if j > i then j else i)) μ
  | .min2, [.int i, .int j] => .ok (.int (if j < i then j else i)) μ
  | .abs, [.int i] => .ok (.int (if i < 0 then -i else i)) μ
  | .int, [.int i] => .ok (.int i) μ
  | .int, [.bl b] => .ok (.int (if b then 1 else 0)) μ
  | .gcd, [.int i, .int j] => .ok (.int (Int.gcd i j)) μ
  | .sorted, [d] => (match isList μ d with
    | some xs => (match allInts xs with
      | some ns => newL c ((sortI ns).map .int) μ
      | none => .stuck)
    | none => .stuck)
  | .append, [l, x] => (match wrL lo l μ (fun xs => if xs.length < big then some (xs ++ [x]) else none) with
    | some μ => .ok .non μ
    | none => .stuck)
  | .pop, [l] => (match isList μ l with
    | some xs => (match xs.getLast? with
      | some y => (match wrL lo l μ (fun xs => some xs.dropLast) with
        | some μ => .ok y μ
        | none => .stuck)
      | none => .stuck)
    | none => .stuck)
  | .popAt, [l, .int i] => (match isList μ l with
    | some xs => (match (if okR i then ixOf xs.length i else none) with
      | some k => (match xs[k]? with
        | some y => (match wrL lo l μ (fun xs => some (xs.eraseIdx k)) with
          | some μ => .ok y μ
          | none => .stuck)
        | none => .stuck)
      | none => .stuck)
    | none => .stuck)
  | .extend, [l, m] => (match isList μ m with
    | some ys => (match wrL lo l μ (fun xs => if xs.length + ys.length ≤ big then some (xs ++ ys) else none) with
      | some μ => .ok .non μ
      | none => .stuck)
    | none => .stuck)
  | .index, [l, x] => (match isList μ l with
    | some xs => (match idxL (eqv T cl μ eqN) x 0 xs with
      | some i => .ok (.int i) μ
      | none => .stuck)
    | none => .stuck)
  | _, _ => .stuck
def atD (μ : Mu) (a i : D) : Option D := match i with
  | .int i => (match items μ a with
    | some xs => (match ixOf xs.length i with
      | some k => xs[k]?
      | none => none)
    | none => none)
  | _ => none
def sliceD (c : Bool) (a : D) (lo hi : Option Int) (μ : Mu) : Out D := match a with
  | .tup xs => .ok (.tup (cut xs lo hi)) μ
  | .arg xs => newL c (cut xs lo hi) μ
  | _ => (match isList μ a with
    | some xs => newL c (cut xs lo hi) μ
    | none => .stuck)
def revD (c : Bool) (a : D) (μ : Mu) : Out D := match isList μ a with
  | some xs => newL c xs.reverse μ
  | none => .stuck
def attrD (o : D) (f : Nat) (μ : Mu) : Option D := match o with
  | .ins c fs => (match T.cls[c]? with
    | some C => if C.exc then none else (match placeN f C.flds with
      | some i => fs[i]?
      | none => none)
    | none => none)
  | .cell k => (match μ[k]? with
    | some (.obj c fs) => (match T.cls[c]? with
      | some C => if C.exc || !(C.flds.contains f) || !(fs.all fun q => C.flds.contains q.1) then none else lookN f fs
      | none => none)
    | _ => none)
  | _ => none

/-! ### targets, what is walked -/
def setTgs (f : Tg → D → En → Option En) : List Tg → List D → En → Option En
  | [], [], env => some env
  | t :: ts, x :: xs, env => (f t x env).bind (setTgs f ts xs)
  | _, _, _ => none
def setTg : Nat → Tg → D → En → Option En
  | _, .name i, d, env => if i < env.length then some (env.set i (some d)) else none
  | 0, .tup _, _, _ => none
  | n + 1, .tup ts, d, env => match d with
    | .tup xs => setTgs (setTg n) ts xs env
    | .lst xs => setTgs (setTg n) ts xs env
    | _ => none
/-- all the names of a target are among these -/
def tgIn (vs : List Nat) : Nat → Tg → Bool
  | _, .name i => vs.contains i
  | 0, .tup _ => false
  | n + 1, .tup ts => ts.all (tgIn vs n)
/-- the names of a target -/
def tgV : Nat → Tg → List Nat
  | _, .name i => [i]
  | 0, .tup _ => []
  | n + 1, .tup ts => ts.flatMap (tgV n)
def tgN : Nat := 3
abbrev Chk := List (Nat × List D)
def chkG (g : Chk) (μ : Mu) : Bool := g.all fun q => decide (μ[q.1]? = some (.lst q.2))
def guard (μ : Mu) : D → Option (List D × Chk)
  | .tup xs => some (xs, [])
  | .lst xs => some (xs, [])
  | .arg xs => some (xs, [])
  | .cell k => match μ[k]? with
    | some (.lst xs) => some (xs, [(k, xs)])
    | _ => none
  | _ => none
def isTup : D → Bool
  | .tup _ => true
  | _ => false
def pair (x y : D) : D := .tup [x, y]
def enumL : Nat → List D → List D
  | _, [] => []
  | i, x :: xs => .tup [.int i, x] :: enumL (i + 1) xs
def rangeD : List D → Option (List D)
  | [.int j] => if okR j then some (countUp 0 1 j.toNat) else none
  | [.int i, .int j] => if okR i && okR j then some (countUp i 1 (j - i).toNat) else none
  | [.int i, .int j, .int c] => if c = -1 ∧ okR i = true ∧ okR j = true then some (countUp i (-1) (i - j).toNat) else none
  | _ => none
def wipe (env : En) : List Nat → En
  | [] => env
  | v :: vs => (wipe env vs).set v none
def evL (ev : IE → Mu → Out D) : List IE → Mu → Out (List D)
  | [], μ => .ok [] μ
  | e :: r, μ => (ev e μ).bind fun d μ => (evL ev r μ).bind fun ds μ => .ok (d :: ds) μ
def evI (ev : IE → Mu → Out D) : Wk IE → Mu → Out (List D × Chk)
  | .seq e, μ => (ev e μ).bind fun d μ => match guard μ d with
    | some q => .ok q μ
    | none => .stuck
  | .range es, μ => (evL ev es μ).bind fun ds μ => if ds.length = es.length then (match rangeD ds with
    | some xs => .ok (xs, []) μ
    | none => .stuck) else .stuck
  | .zip a b, μ => (ev a μ).bind fun x μ => (ev b μ).bind fun y μ => match guard μ x, guard μ y with
    | some p, some q => if isTup x = isTup y then .ok (List.zipWith pair p.1 q.1, p.2 ++ q.2) μ else .stuck
    | _, _ => .stuck
  | .enum a, μ => (ev a μ).bind fun d μ => match guard μ d with
    | some q => if isTup d then .stuck else .ok (enumL 0 q.1, q.2) μ
    | none => .stuck
def compL (env : En) (tg : Tg) (g : Chk) (cond : En → Mu → Out Bool) (elt : En → Mu → Out (List D)) : List D → Mu → Out (List D)
  | [], μ => if chkG g μ then .ok [] μ else .stuck
  | x :: r, μ => if chkG g μ then (match setTg tgN tg x env with
    | some e => (cond e μ).bind fun b μ => if b then (elt e μ).bind fun ys μ => (compL env tg g cond elt r μ).bind fun zs μ => .ok (ys ++ zs) μ else compL env tg g cond elt r μ
    | none => .stuck) else .stuck
def tru (o : Out D) : Out Bool := o.bind fun d μ => match truth μ d with
  | some b => .ok b μ
  | none => .stuck
/-- no exception may leave -/
def nox {α : Type} (o : Out α) : Out α := match o with
  | .ok a μ => .ok a μ
  | _ => .stuck
@[simp] theorem nox_ok {α : Type} (a : α) (μ : Mu) : nox (Out.ok a μ) = .ok a μ := nr rfl
def evO (ev : IE → Mu → Out D) : Option IE → Mu → Out (Option Int)
  | none, μ => .ok none μ
  | some e, μ => (ev e μ).bind fun d μ => match d with
    | .int i => if okR i then .ok (some i) μ else .stuck
    | _ => .stuck
def one (o : Out D) : Out (List D) := o.bind fun d μ => .ok [d] μ

/-- a clause's test -/
def condE (ev : En → IE → Mu → Out D) (cond : Option IE) (e : En) (μ : Mu) : Out Bool := match cond with
  | none => .ok true μ
  | some t => tru (ev e t μ)
def evE : Nat → En → IE → Mu → Out D
  | 0, _, _, _ => .stuck
  | n + 1, env, e, μ => match e with
    | .bad => .stuck
    | .cst d => .ok d μ
    | .glb d => .ok d μ
    | .var i => (match env[i]? with
      | some (some d) => .ok d μ
      | _ => .stuck)
    | .bin c op a b => (evE n env a μ).bind fun x μ => (evE n env b μ).bind fun y μ => binD T cl lo c op x y μ
    | .neg a => (evE n env a μ).bind fun x μ => (match x with
      | .int i => .ok (.int (-i)) μ
      | _ => callM T cl lo 9 x [] μ)
    | .cmp op a b => (evE n env a μ).bind fun x μ => (evE n env b μ).bind fun y μ => cmpD T cl op x y μ
    | .cmp2 op op' a b c => (evE n env a μ).bind fun x μ => (evE n env b μ).bind fun y μ => (cmpD T cl op x y μ).bind fun k μ => (match k with
      | .bl true => (evE n env c μ).bind fun z μ => cmpD T cl op' y z μ
      | .bl false => .ok (.bl false) μ
      | _ => .stuck)
    | .and a b => (evE n env a μ).bind fun x μ => (match truth μ x with
      | some true => evE n env b μ
      | some false => .ok x μ
      | none => .stuck)
    | .or a b => (evE n env a μ).bind fun x μ => (match truth μ x with
      | some true => .ok x μ
      | some false => evE n env b μ
      | none => .stuck)
    | .not a => (evE n env a μ).bind fun x μ => (match truth μ x with
      | some k => .ok (.bl (!k)) μ
      | none => .stuck)
    | .ite t a b => (tru (evE n env t μ)).bind fun k μ => if k then evE n env a μ else evE n env b μ
    | .tup es => (evL (evE n env) es μ).bind fun ds μ => newT ds μ
    | .lst c es => (evL (evE n env) es μ).bind fun ds μ => newL c ds μ
    | .call f es => (evL (evE n env) es μ).bind fun ds μ => callF T cl lo f ds μ
    | .mk c es => (evL (evE n env) es μ).bind fun ds μ => makeI T cl c ds μ
    | .callv i es => (match env[i]? with
      | some (some f) => if okV T f then (evL (evE n env) es μ).bind fun ds μ => callV T cl lo f ds μ else .stuck
      | _ => .stuck)
    | .meth m o es => (evE n env o μ).bind fun x μ => (match recvM T m x μ with
      | some f => (evL (evE n env) es μ).bind fun ds μ => callF T cl lo f (x :: ds) μ
      | none => .stuck)
    | .prim c p es => (evL (evE n env) es μ).bind fun ds μ => prD T cl lo c p ds μ
    | .bm c p o es => (evE n env o μ).bind fun x μ => (match isList μ x with
      | some _ => (evL (evE n env) es μ).bind fun ds μ => prD T cl lo c p (x :: ds) μ
      | none => .stuck)
    | .isin e ts => (evE n env e μ).bind fun x μ => (match anyTy T μ x ts with
      | some b => .ok (.bl b) μ
      | none => .stuck)
    | .attr o f => (evE n env o μ).bind fun x μ => (match attrD T x f μ with
      | some d => .ok d μ
      | none => .stuck)
    | .sub a i => (evE n env a μ).bind fun x μ => (evE n env i μ).bind fun y μ => (match atD μ x y with
      | some d => .ok d μ
      | none => .stuck)
    | .slice c a l h => (evE n env a μ).bind fun x μ => (evO (evE n env) l μ).bind fun i μ => (evO (evE n env) h μ).bind fun j μ => sliceD c x i j μ
    | .rev c a => (evE n env a μ).bind fun x μ => revD c x μ
    | .comp c own tg it cond elt => (evI (evE n env) it μ).bind fun q μ =>
        (nox (compL (wipe env own) tg q.2 (condE (evE n) cond) (fun e μ => one (evE n e elt μ)) q.1 μ)).bind fun ds μ => newL c ds μ
    | .comp2 c own own1 tg it tg1 it1 cond elt => (evI (evE n env) it μ).bind fun q μ =>
        (nox (compL (wipe env own) tg q.2 (fun _ μ => .ok true μ) (fun e μ => (evI (evE n e) it1 μ).bind fun q1 μ =>
          compL (wipe e own1) tg1 q1.2 (condE (evE n) cond) (fun e μ => one (evE n e elt μ)) q1.1 μ) q.1 μ)).bind fun ds μ => newL c ds μ

/-! ### statements -/
def SOut.of {α : Type} (o : Out α) (env : En) (f : α → Mu → SOut) : SOut := match o with
  | .ok a μ => f a μ
  | .ex c fs μ => .ex c fs env μ
  | .stuck => .stuck
@[simp] theorem SOut.of_ok {α : Type} (a : α) (μ : Mu) (env : En) (f : α → Mu → SOut) : SOut.of (.ok a μ) env f = f a μ := nr rfl
@[simp] theorem SOut.of_ex {α : Type} (c : Nat) (fs : List D) (μ : Mu) (env : En) (f : α → Mu → SOut) : SOut.of (.ex c fs μ) env f = .ex c fs env μ := nr rfl
@[simp] theorem SOut.of_stuck {α : Type} (env : En) (f : α → Mu → SOut) : SOut.of (.stuck : Out α) env f = .stuck := nr rfl
def SOut.then (o : SOut) (f : En → Mu → SOut) : SOut := match o with
  | .next env μ => f env μ
  | o => o
def exL (ex : IS → En → Mu → SOut) : List IS → En → Mu → SOut
  | [], env, μ => .next env μ
  | s :: r, env, μ => (ex s env μ).then (exL ex r)
def whlL (c : En → Mu → Out Bool) (b : En → Mu → SOut) : Nat → En → Mu → SOut
  | 0, _, _ => .stuck
  | m + 1, env, μ => SOut.of (c env μ) env fun k μ => if k then (match b env μ with
    | .next env μ => whlL c b m env μ
    | .cnt env μ => whlL c b m env μ
    | .brk env μ => .next env μ
    | o => o) else .next env μ
def forL (tg : Tg) (g : Chk) (b : En → Mu → SOut) : List D → En → Mu → SOut
  | [], env, μ => if chkG g μ then .next env μ else .stuck
  | x :: r, env, μ => if chkG g μ then (match setTg tgN tg x env with
    | some env => (match b env μ with
      | .next env μ => forL tg g b r env μ
      | .cnt env μ => forL tg g b r env μ
      | .brk env μ => .next env μ
      | o => o)
    | none => .stuck) else .stuck
def whlN : Nat := 1000000
/-- the targets from the left -/
def asL (as : Tgt → D → En → Mu → SOut) : List Tgt → List D → En → Mu → SOut
  | [], [], env, μ => .next env μ
  | t :: ts, x :: xs, env, μ => (as t x env μ).then (asL as ts xs)
  | _, _, _, _ => .stuck
def asT : Nat → Tgt → D → En → Mu → SOut
  | 0, _, _, _, _ => .stuck
  | n + 1, t, d, env, μ => match t with
    | .name i => if i < env.length then .next (env.set i (some d)) μ else .stuck
    | .tup ts => (match d with
      | .tup xs => if xs.length = ts.length then asL (asT n) ts xs env μ else .stuck
      | .lst xs => if xs.length = ts.length then asL (asT n) ts xs env μ else .stuck
      | _ => .stuck)
    | .sub a i => SOut.of (evE T cl lo n env a μ) env fun x μ => SOut.of (evE T cl lo n env i μ) env fun y μ => (match y with
      | .int i => (match wrL lo x μ (fun xs => (ixOf xs.length i).map fun k => xs.set k d) with
        | some μ => .next env μ
        | none => .stuck)
      | _ => .stuck)
    | .attr a f => SOut.of (evE T cl lo n env a μ) env fun x μ => (match x with
      | .cell k => if lo ≤ k then (match μ[k]? with
        | some (.obj c fs) => (match T.cls[c]? with
          | some C => if fs.length < 900 ∧ C.exc = false ∧ C.flds.contains f = true ∧ (fs.all fun q => C.flds.contains q.1) = true then .next env (μ.set k (.obj c (putN f d fs))) else .stuck
          | none => .stuck)
        | _ => .stuck) else .stuck
      | _ => .stuck)
/-- the suite of the clause that takes the exception -/
def hdS (c : Nat) (fs : List D) (env : En) (μ : Mu) : List (Nat × HB) → SOut
  | [] => .ex c fs env μ
  | (k, h) :: r => match T.cls[c]?, T.cls[k]? with
    | some C, some C' => if C.exc = true ∧ C'.exc = true then (if (decide (k = c) || C.sup.contains k) = true then (match h with
        | .ret d => .ret d μ
        | .fld v f => if c = k ∧ v < env.length then (match placeN f C.flds with
          | some i => (match fs[i]? with
            | some d => .ret d μ
            | none => .stuck)
          | none => .stuck) else .stuck
        | .eqf v f x => if c = k ∧ v < env.length then (match placeN f C.flds with
          | some i => (match fs[i]? with
            | some (.str y) => .ret (.bl (decide (y = x))) μ
            | _ => .stuck)
          | none => .stuck) else .stuck) else hdS c fs env μ r) else .stuck
    | _, _ => .stuck
def exS : Nat → IS → En → Mu → SOut
  | 0, _, _, _ => .stuck
  | n + 1, s, env, μ => match s with
    | .bad => .stuck
    | .expr e => SOut.of (evE T cl lo n env e μ) env fun _ μ => .next env μ
    | .asg t e => SOut.of (evE T cl lo n env e μ) env fun d μ => asT T cl lo n t d env μ
    | .aug i op e => (match env[i]? with
      | some (some (.int x)) => SOut.of (evE T cl lo n env e μ) env fun d μ => (match d with
        | .int y => (match op with
          | .add => .next (env.set i (some (.int (x + y)))) μ
          | .sub => .next (env.set i (some (.int (x - y)))) μ
          | _ => .stuck)
        | _ => .stuck)
      | _ => .stuck)
    | .ret e => SOut.of (evE T cl lo n env e μ) env fun d μ => .ret d μ
    | .ite t a b => SOut.of (tru (evE T cl lo n env t μ)) env fun k μ => if k then exL (exS n) a env μ else exL (exS n) b env μ
    | .whl t b => whlL (fun env μ => tru (evE T cl lo n env t μ)) (exL (exS n) b) whlN env μ
    | .for tg it b => SOut.of (evI (evE T cl lo n env) it μ) env fun q μ => forL tg q.2 (exL (exS n) b) q.1 env μ
    | .brk => .brk env μ
    | .cnt => .cnt env μ
    | .pass => .next env μ
    | .raise c es => SOut.of (evL (evE T cl lo n env) es μ) env fun ds μ => (match T.cls[c]? with
      | some C => .ex c (if C.flds.isEmpty then [] else ds) env μ
      | none => .stuck)
    | .try b hs => (match exL (exS n) b env μ with
      | .ex c fs env μ => hdS T c fs env μ hs
      | o => o)
end

def finish (m : Mode) (μ : Mu) (o : SOut) : Out D := match m with
  | .keep => (match o with
    | .ret d μ' => .ok d μ'
    | .next _ μ' => .ok .non μ'
    | .ex c fs _ μ' => .ex c fs μ'
    | _ => .stuck)
  | .pure => (match o with
    | .ret d μ' => (match fz μ' μ.length fzN d with
      | some d => .ok d μ
      | none => .stuck)
    | .next _ _ => .ok .non μ
    | .ex c fs _ _ => if fs.all (okD μ.length fzN) then .ex c fs μ else .stuck
    | _ => .stuck)
  | .drop => (match o with
    | .ret d μ' => (match fz μ' μ.length fzN d with
      | some d => if (μ'.take μ.length).all (okC μ.length) then .ok d (μ'.take μ.length) else .stuck
      | none => .stuck)
    | .next _ μ' => if (μ'.take μ.length).all (okC μ.length) then .ok .non (μ'.take μ.length) else .stuck
    | .ex c fs _ μ' => if fs.all (okD μ.length fzN) && (μ'.take μ.length).all (okC μ.length) then .ex c fs (μ'.take μ.length) else .stuck
    | _ => .stuck)
def loOf (m : Mode) (lo : Nat) (μ : Mu) : Nat := match m with
  | .pure => μ.length
  | _ => lo
def bodyN : Nat := 60
/-- k calls, one in another -/
def run (T : Tab) : Nat → Cll
  | 0, _, _, _, _ => .stuck
  | k + 1, lo, f, ds, μ => match T.fns[f]? with
    | some F => if ds.length = F.npar then
        finish F.mode μ (exL (exS T (run T k) (loOf F.mode lo μ) bodyN) F.code (ds.map some ++ List.replicate (F.nloc - F.npar) none) μ) else .stuck
    | none => .stuck
end Pi

set_option Elab.async false
set_option linter.all false
set_option maxRecDepth 100000
set_option maxHeartbeats 4000000
/-! Hd: what the head looks at: definitions alone. -/
namespace Sd
open PySem PySem.Spec PyProof.Rows L2 Pi
/-- the text's tables and where its defs and classes stand -/
structure Geo where
  K : PySem.W.Frag
  T : Tab
  fad : Nat → Addr
  cad : Nat → Addr
def Geo.nm (G : Geo) (i : Nat) : Str := G.T.nms.getD i ""

def kdT : Kd → String
  | .non => "NoneType"
  | .bl => "bool"
  | .int => "int"
  | .str => "str"
  | .tup => "tuple"
  | .lst => "list"
def tyU (G : Geo) : Ty → Value
  | .int => .type "int"
  | .bool => .type "bool"
  | .str => .type "str"
  | .list => .type "list"
  | .tuple => .type "tuple"
  | .dict => .type "dict"
  | .own c => .ref (G.cad c)
/-- what a module's name means -/
inductive Gk where
  | val (d : D)
  | fn (i : Nat)
  | cls (c : Nat)
  | bf (id : String)
def optAll {α β : Type} (f : α → Option β) : List α → Option (List β)
  | [] => some []
  | x :: r => match f x, optAll f r with
    | some y, some ys => some (y :: ys)
    | _, _ => none
/-- the text, told -/
structure Wt where
  T : Tab
  cn : List Str
  fn : List He.DefD
  gl : List (Str × Gk)
  free : List Str
  mkc : List Nat
instance : Inhabited He.DefD := ⟨⟨("", none), "", "", ⟨[], [], none, [], [], none, []⟩, [], default, [], []⟩⟩
def Wt.fad (t : Wt) (K : PySem.W.Frag) (i : Nat) : Addr := He.fAd K (t.fn.getD i default).at_
def Wt.cad (t : Wt) (K : PySem.W.Frag) (c : Nat) : Addr := He.ga K (t.cn.getD c "")
def Wt.geo (t : Wt) (K : PySem.W.Frag) : Geo := ⟨K, t.T, t.fad K, t.cad K⟩
def dvOf : D → Option He.Dv
  | .non => some .non
  | .bl b => some (.bl b)
  | .int i => some (.int i)
  | .str x => some (.str x)
  | _ => none
def glB (t : Wt) (K : PySem.W.Frag) (x : Str) : Gk → Bool
  | .fn i => He.eqO (PySem.W.nsIn K mainGlobals x) (some (some (.ref (t.fad K i)))) && decide (i < t.T.fns.length)
  | .cls c => He.eqO (PySem.W.nsIn K mainGlobals x) (some (some (.ref (t.cad K c)))) && decide (c < t.T.cls.length)
  | .bf id => He.eqO (PySem.W.nsIn K mainGlobals x) (some (some (.builtin id)))
  | .val (.int i) => (He.Fa.int x i).ok K
  | .val (.str z) => (He.Fa.str x z).ok K
  | .val (.tup ds) => (match optAll dvOf ds with
    | some vs => He.eqO (PySem.W.nsIn K mainGlobals x) (some (some (.ref (He.ga K x)))) && He.tupB K x vs
    | none => false)
  | .val _ => false
def klB (t : Wt) (K : PySem.W.Frag) (c : Nat) (C : Kl) : Bool :=
  (He.Fa.cls (t.cn.getD c "")).ok K && (C.flds.all (fun f => He.eqO (PySem.W.findIn K (.ref (t.cad K c)) ((t.geo K).nm f)) (some none)) && (decide ((C.flds.map (t.geo K).nm).Nodup) && ((C.meths.all fun q => !(C.flds.map (t.geo K).nm).contains ((t.geo K).nm q.1)) &&
  ((C.meths.all fun q => He.eqO (PySem.W.findIn K (.ref (t.cad K c)) ((t.geo K).nm q.1)) (some (some (.ref (t.fad K q.2)))) && (PySem.W.isFn K (.ref (t.fad K q.2)) && PySem.W.keepIn K (.ref (t.fad K q.2)))) &&
  (PySem.W.selfFirst K (t.cad K c) && (decide (PySem.W.mroIn K (t.cad K c) (.type "object") = some true) && (He.eqO (PySem.W.findIn K (.ref (t.cad K c)) "__ne__") (some (some (.builtin "object.__ne__"))) &&
  (PySem.W.makesIn K (t.cad K c) && (He.eqO (PySem.W.findIn K (.ref (t.cad K c)) "__init__") (some (some (.ref (t.fad K C.init)))) && (PySem.W.isFn K (.ref (t.fad K C.init)) && PySem.W.keepIn K (.ref (t.cad K c))))))))))))
def kds : List Kd := [.non, .bl, .int, .str, .tup, .lst]
def tys : List Ty := [.int, .bool, .str, .list, .tuple, .dict]
/-- a class that is no exception -/
def Wt.own (t : Wt) (c : Nat) : Bool := match t.T.cls[c]? with
  | some C => !C.exc
  | none => false
def isB (t : Wt) (K : PySem.W.Frag) : Bool :=
  (kds.all fun κ => tys.all fun y => decide (PySem.W.kitOne K (.type (kdT κ)) (tyU (t.geo K) y) = some (isK κ y))) &&
  ((kds.all fun κ => (List.range t.T.cls.length).all fun c => decide (PySem.W.kitOne K (.type (kdT κ)) (.ref (t.cad K c)) = some false)) &&
  (((List.range t.T.cls.length).all fun c => !t.own c || ((tys.all fun y => decide (PySem.W.kitOne K (.ref (t.cad K c)) (tyU (t.geo K) y) = some false)) &&
    (((List.range t.T.cls.length).all fun c' => decide (PySem.W.kitOne K (.ref (t.cad K c)) (.ref (t.cad K c')) = some (decide (c' = c)))) &&
    He.eqO (PySem.W.findIn K (.ref (t.cad K c)) "__class__") (some (some (.builtin "object.__class__")))))) &&
  (He.eqO (PySem.W.specialIn K (.builtin "object.__class__") "__get__") (some (some (.builtin "getset_descriptor.__get__"))) && decide (PySem.W.takesIn K (.builtin "object.__class__") = some true))))
/-- all that is asked of the written part -/
def worldB (t : Wt) (K : PySem.W.Frag) : Bool :=
  (t.gl.all fun q => glB t K q.1 q.2) && ((t.free.all fun x => (He.Fa.free x).ok K) && (((List.range t.T.cls.length).all fun c => match t.T.cls[c]? with
    | some C => C.exc || klB t K c C
    | none => true) && isB t K))
def obsW (t : Wt) (K : PySem.W.Frag) : He.AlD := (worldB t K && t.fn.all fun d => d.ok K, t.fn.map fun d => He.fnW K d.at_)
def SaysW (t : Wt) (K : PySem.W.Frag) : Prop := obsW t K = He.valD t.fn
def obsWG (n : Nat) (t : Wt) (g : Addr → Option Obj) : He.AlD := obsW t (He.frG g (He.asD g n))
def hookW (n : Nat) (t : Wt) : PySem.W.Hook where
  α := He.AlD
  obs := fun s => obsWG n t s.heap.get?
  val := fun _ => He.valD t.fn
  says := fun _ h => ∃ K : PySem.W.Frag, K.In h ∧ SaysW t K
  of := fun _ _ e => ⟨_, He.frG_in, e⟩
  keeps := fun _ _ _ ⟨K, hK, c⟩ k => ⟨K, PySem.W.Frag.In.keeps hK k, c⟩
theorem obsWG_eq {n : Nat} {t : Wt} {g : Addr → Option Obj} {s : Shared} (h : ∀ a, g a = s.heap.get? a) : obsWG n t g = (hookW n t).obs s := by
  have e : g = s.heap.get? := funext h
  rw [e] <;> rfl
/-- the same sight by a table without the codes -/
theorem obsW_lite {t t' : Wt} (K : PySem.W.Frag) (h1 : t.T.cls = t'.T.cls) (h2 : t.T.nms = t'.T.nms) (h3 : t.T.fns.length = t'.T.fns.length) (h4 : t.cn = t'.cn) (h5 : t.fn = t'.fn) (h6 : t.gl = t'.gl) (h7 : t.free = t'.free) : obsW t K = obsW t' K := by
  obtain ⟨⟨a1, a2, a3⟩, b, c, d, e, f⟩ := t
  obtain ⟨⟨a1', a2', a3'⟩, b', c', d', e', f'⟩ := t'
  simp only at h1 h2 h3 h4 h5 h6 h7
  subst h1 h2 h4 h5 h6 h7
  unfold obsW worldB
  have g : ∀ x g, glB ⟨⟨a1, a2, a3⟩, b, c, d, e, f⟩ K x g = glB ⟨⟨a1', a2, a3⟩, b, c, d, e, f'⟩ K x g := fun x g => by
    cases g <;> simp only [glB, h3] <;> rfl
  simp only [g]
  rfl
end Sd

set_option Elab.async false
set_option linter.all false
set_option maxRecDepth 100000
set_option maxHeartbeats 4000000
namespace K67
open PySem PySem.Spec PyProof.Rows L2 Pi Sd
def top (i : Nat) : Stmt := PySem.Challenge.pw_similarroads_k67_square_matrices.main.body.getD i (.Pass ⟨0, 0, 0, 0⟩)
def nms : List Str := ["__eq__", "__add__", "__sub__", "__mul__", "__floordiv__", "__mod__", "__pow__", "__len__", "__call__", "__neg__", "reason", "n", "d", "p", "ground", "rows", "width", "is_zero", "inverse", "over", "number", "zero", "is_member", "transposed", "is_square"]
def gl : List (Str × Gk) := [("gcd", .bf "math.gcd"), ("ZeroDivisor", .cls 1), ("Malformed", .cls 2), ("Refused", .cls 3), ("is_integer", .fn 0), ("Ratio", .cls 4), ("PRIMES", .val (.tup [.int 2, .int 3, .int 5, .int 7, .int 11, .int 13, .int 17, .int 19, .int 23, .int 29, .int 31])), ("is_small_prime", .fn 10), ("Residue", .cls 5), ("Ground", .cls 6), ("taken", .fn 25), ("MOST_ROWS", .val (.int 8)), ("MOST_WIDTH", .val (.int 64)), ("taken_rows", .fn 26), ("row_times", .fn 27), ("Matrix", .cls 7), ("check_alike", .fn 39), ("check_square", .fn 40), ("unit", .fn 41), ("nothing", .fn 42), ("_law_state", .fn 43), ("_law_odd", .fn 44), ("_law_honest", .fn 45), ("_law_take", .fn 46), ("law", .fn 47)]
def free : List Str := ["len", "isinstance", "range", "list", "tuple", "all", "abs", "int", "zip", "bool"]
/-- is_integer -/
abbrev s0 : Stmt := top 11
def d0 : He.DefD := ⟨("is_integer", none), "is_integer", "is_integer", defArgs s0, defBody s0, defScope s0, [], []⟩
/-- Ratio.__init__ -/
abbrev s1 : Stmt := inClass (top 12) 0
def d1 : He.DefD := ⟨("Ratio", some "__init__"), "__init__", "Ratio.__init__", defArgs s1, defBody s1, defScope s1, [.int 1], []⟩
/-- Ratio.__eq__ -/
abbrev s2 : Stmt := inClass (top 12) 1
def d2 : He.DefD := ⟨("Ratio", some "__eq__"), "__eq__", "Ratio.__eq__", defArgs s2, defBody s2, defScope s2, [], []⟩
/-- Ratio.__add__ -/
abbrev s3 : Stmt := inClass (top 12) 2
def d3 : He.DefD := ⟨("Ratio", some "__add__"), "__add__", "Ratio.__add__", defArgs s3, defBody s3, defScope s3, [], []⟩
/-- Ratio.__sub__ -/
abbrev s4 : Stmt := inClass (top 12) 3
def d4 : He.DefD := ⟨("Ratio", some "__sub__"), "__sub__", "Ratio.__sub__", defArgs s4, defBody s4, defScope s4, [], []⟩
/-- Ratio.__mul__ -/
abbrev s5 : Stmt := inClass (top 12) 4
def d5 : He.DefD := ⟨("Ratio", some "__mul__"), "__mul__", "Ratio.__mul__", defArgs s5, defBody s5, defScope s5, [], []⟩
/-- Ratio.__neg__ -/
abbrev s6 : Stmt := inClass (top 12) 5
def d6 : He.DefD := ⟨("Ratio", some "__neg__"), "__neg__", "Ratio.__neg__", defArgs s6, defBody s6, defScope s6, [], []⟩
/-- Ratio.is_zero -/
abbrev s7 : Stmt := inClass (top 12) 7
def d7 : He.DefD := ⟨("Ratio", some "is_zero"), "is_zero", "Ratio.is_zero", defArgs s7, defBody s7, defScope s7, [], []⟩
/-- Ratio.inverse -/
abbrev s8 : Stmt := inClass (top 12) 8
def d8 : He.DefD := ⟨("Ratio", some "inverse"), "inverse", "Ratio.inverse", defArgs s8, defBody s8, defScope s8, [], []⟩
/-- Ratio.over -/
abbrev s9 : Stmt := inClass (top 12) 9
def d9 : He.DefD := ⟨("Ratio", some "over"), "over", "Ratio.over", defArgs s9, defBody s9, defScope s9, [], []⟩
/-- is_small_prime -/
abbrev s10 : Stmt := top 15
def d10 : He.DefD := ⟨("is_small_prime", none), "is_small_prime", "is_small_prime", defArgs s10, defBody s10, defScope s10, [], []⟩
/-- Residue.__init__ -/
abbrev s11 : Stmt := inClass (top 16) 0
def d11 : He.DefD := ⟨("Residue", some "__init__"), "__init__", "Residue.__init__", defArgs s11, defBody s11, defScope s11, [], []⟩
/-- Residue.__eq__ -/
abbrev s12 : Stmt := inClass (top 16) 1
def d12 : He.DefD := ⟨("Residue", some "__eq__"), "__eq__", "Residue.__eq__", defArgs s12, defBody s12, defScope s12, [], []⟩
/-- Residue.__add__ -/
abbrev s13 : Stmt := inClass (top 16) 2
def d13 : He.DefD := ⟨("Residue", some "__add__"), "__add__", "Residue.__add__", defArgs s13, defBody s13, defScope s13, [], []⟩
/-- Residue.__sub__ -/
abbrev s14 : Stmt := inClass (top 16) 3
def d14 : He.DefD := ⟨("Residue", some "__sub__"), "__sub__", "Residue.__sub__", defArgs s14, defBody s14, defScope s14, [], []⟩
/-- Residue.__mul__ -/
abbrev s15 : Stmt := inClass (top 16) 4
def d15 : He.DefD := ⟨("Residue", some "__mul__"), "__mul__", "Residue.__mul__", defArgs s15, defBody s15, defScope s15, [], []⟩
/-- Residue.__neg__ -/
abbrev s16 : Stmt := inClass (top 16) 5
def d16 : He.DefD := ⟨("Residue", some "__neg__"), "__neg__", "Residue.__neg__", defArgs s16, defBody s16, defScope s16, [], []⟩
/-- Residue.is_zero -/
abbrev s17 : Stmt := inClass (top 16) 7
def d17 : He.DefD := ⟨("Residue", some "is_zero"), "is_zero", "Residue.is_zero", defArgs s17, defBody s17, defScope s17, [], []⟩
/-- Residue.inverse -/
abbrev s18 : Stmt := inClass (top 16) 8
def d18 : He.DefD := ⟨("Residue", some "inverse"), "inverse", "Residue.inverse", defArgs s18, defBody s18, defScope s18, [], []⟩
/-- Residue.over -/
abbrev s19 : Stmt := inClass (top 16) 9
def d19 : He.DefD := ⟨("Residue", some "over"), "over", "Residue.over", defArgs s19, defBody s19, defScope s19, [], []⟩
/-- Ground.__init__ -/
abbrev s20 : Stmt := inClass (top 21) 0
def d20 : He.DefD := ⟨("Ground", some "__init__"), "__init__", "Ground.__init__", defArgs s20, defBody s20, defScope s20, [.int 0], []⟩
/-- Ground.__eq__ -/
abbrev s21 : Stmt := inClass (top 21) 1
def d21 : He.DefD := ⟨("Ground", some "__eq__"), "__eq__", "Ground.__eq__", defArgs s21, defBody s21, defScope s21, [], []⟩
/-- Ground.number -/
abbrev s22 : Stmt := inClass (top 21) 2
def d22 : He.DefD := ⟨("Ground", some "number"), "number", "Ground.number", defArgs s22, defBody s22, defScope s22, [.int 1], []⟩
/-- Ground.zero -/
abbrev s23 : Stmt := inClass (top 21) 3
def d23 : He.DefD := ⟨("Ground", some "zero"), "zero", "Ground.zero", defArgs s23, defBody s23, defScope s23, [], []⟩
/-- Ground.is_member -/
abbrev s24 : Stmt := inClass (top 21) 5
def d24 : He.DefD := ⟨("Ground", some "is_member"), "is_member", "Ground.is_member", defArgs s24, defBody s24, defScope s24, [], []⟩
/-- taken -/
abbrev s25 : Stmt := top 22
def d25 : He.DefD := ⟨("taken", none), "taken", "taken", defArgs s25, defBody s25, defScope s25, [], []⟩
/-- taken_rows -/
abbrev s26 : Stmt := top 26
def d26 : He.DefD := ⟨("taken_rows", none), "taken_rows", "taken_rows", defArgs s26, defBody s26, defScope s26, [], []⟩
/-- row_times -/
abbrev s27 : Stmt := top 27
def d27 : He.DefD := ⟨("row_times", none), "row_times", "row_times", defArgs s27, defBody s27, defScope s27, [], []⟩
/-- Matrix.__init__ -/
abbrev s28 : Stmt := inClass (top 28) 0
def d28 : He.DefD := ⟨("Matrix", some "__init__"), "__init__", "Matrix.__init__", defArgs s28, defBody s28, defScope s28, [.non], []⟩
/-- Matrix.__len__ -/
abbrev s29 : Stmt := inClass (top 28) 1
def d29 : He.DefD := ⟨("Matrix", some "__len__"), "__len__", "Matrix.__len__", defArgs s29, defBody s29, defScope s29, [], []⟩
/-- Matrix.__eq__ -/
abbrev s30 : Stmt := inClass (top 28) 2
def d30 : He.DefD := ⟨("Matrix", some "__eq__"), "__eq__", "Matrix.__eq__", defArgs s30, defBody s30, defScope s30, [], []⟩
/-- Matrix.__add__ -/
abbrev s31 : Stmt := inClass (top 28) 3
def d31 : He.DefD := ⟨("Matrix", some "__add__"), "__add__", "Matrix.__add__", defArgs s31, defBody s31, defScope s31, [], []⟩
/-- Matrix.__neg__ -/
abbrev s32 : Stmt := inClass (top 28) 4
def d32 : He.DefD := ⟨("Matrix", some "__neg__"), "__neg__", "Matrix.__neg__", defArgs s32, defBody s32, defScope s32, [], []⟩
/-- Matrix.__sub__ -/
abbrev s33 : Stmt := inClass (top 28) 5
def d33 : He.DefD := ⟨("Matrix", some "__sub__"), "__sub__", "Matrix.__sub__", defArgs s33, defBody s33, defScope s33, [], []⟩
/-- Matrix.__mul__ -/
abbrev s34 : Stmt := inClass (top 28) 6
def d34 : He.DefD := ⟨("Matrix", some "__mul__"), "__mul__", "Matrix.__mul__", defArgs s34, defBody s34, defScope s34, [], []⟩
/-- Matrix.transposed -/
abbrev s35 : Stmt := inClass (top 28) 9
def d35 : He.DefD := ⟨("Matrix", some "transposed"), "transposed", "Matrix.transposed", defArgs s35, defBody s35, defScope s35, [], []⟩
/-- Matrix.is_square -/
abbrev s36 : Stmt := inClass (top 28) 10
def d36 : He.DefD := ⟨("Matrix", some "is_square"), "is_square", "Matrix.is_square", defArgs s36, defBody s36, defScope s36, [], []⟩
/-- Matrix.is_zero -/
abbrev s37 : Stmt := inClass (top 28) 11
def d37 : He.DefD := ⟨("Matrix", some "is_zero"), "is_zero", "Matrix.is_zero", defArgs s37, defBody s37, defScope s37, [], []⟩
/-- Matrix.inverse -/
abbrev s38 : Stmt := inClass (top 28) 16
def d38 : He.DefD := ⟨("Matrix", some "inverse"), "inverse", "Matrix.inverse", defArgs s38, defBody s38, defScope s38, [], []⟩
/-- check_alike -/
abbrev s39 : Stmt := top 29
def d39 : He.DefD := ⟨("check_alike", none), "check_alike", "check_alike", defArgs s39, defBody s39, defScope s39, [], []⟩
/-- check_square -/
abbrev s40 : Stmt := top 30
def d40 : He.DefD := ⟨("check_square", none), "check_square", "check_square", defArgs s40, defBody s40, defScope s40, [], []⟩
/-- unit -/
abbrev s41 : Stmt := top 31
def d41 : He.DefD := ⟨("unit", none), "unit", "unit", defArgs s41, defBody s41, defScope s41, [], []⟩
/-- nothing -/
abbrev s42 : Stmt := top 32
def d42 : He.DefD := ⟨("nothing", none), "nothing", "nothing", defArgs s42, defBody s42, defScope s42, [], []⟩
/-- _law_state -/
abbrev s43 : Stmt := top 34
def d43 : He.DefD := ⟨("_law_state", none), "_law_state", "_law_state", defArgs s43, defBody s43, defScope s43, [], []⟩
/-- _law_odd -/
abbrev s44 : Stmt := top 35
def d44 : He.DefD := ⟨("_law_odd", none), "_law_odd", "_law_odd", defArgs s44, defBody s44, defScope s44, [], []⟩
/-- _law_honest -/
abbrev s45 : Stmt := top 36
def d45 : He.DefD := ⟨("_law_honest", none), "_law_honest", "_law_honest", defArgs s45, defBody s45, defScope s45, [], []⟩
/-- _law_take -/
abbrev s46 : Stmt := top 37
def d46 : He.DefD := ⟨("_law_take", none), "_law_take", "_law_take", defArgs s46, defBody s46, defScope s46, [], []⟩
/-- law -/
abbrev s47 : Stmt := top 38
def d47 : He.DefD := ⟨("law", none), "law", "law", defArgs s47, defBody s47, defScope s47, [], []⟩
def fn : List He.DefD := [d0, d1, d2, d3, d4, d5, d6, d7, d8, d9, d10, d11, d12, d13, d14, d15, d16, d17, d18, d19, d20, d21, d22, d23, d24, d25, d26, d27, d28, d29, d30, d31, d32, d33, d34, d35, d36, d37, d38, d39, d40, d41, d42, d43, d44, d45, d46, d47]
def cls : List Kl := [⟨true, [], 0, [], []⟩, ⟨true, [], 0, [], [0]⟩, ⟨true, [], 0, [], [0]⟩, ⟨true, [10], 0, [], [0]⟩, ⟨false, [11, 12], 1, [(0, 2), (1, 3), (2, 4), (3, 5), (9, 6), (17, 7), (18, 8), (19, 9)], []⟩, ⟨false, [13, 11], 11, [(0, 12), (1, 13), (2, 14), (3, 15), (9, 16), (17, 17), (18, 18), (19, 19)], []⟩, ⟨false, [13], 20, [(0, 21), (20, 22), (21, 23), (22, 24)], []⟩, ⟨false, [14, 15, 16], 28, [(7, 29), (0, 30), (1, 31), (9, 32), (2, 33), (3, 34), (23, 35), (24, 36), (17, 37), (18, 38)], []⟩]
def cn : List Str := ["Fault", "ZeroDivisor", "Malformed", "Refused", "Ratio", "Residue", "Ground", "Matrix"]
def wh : Wt := ⟨⟨List.replicate 48 default, cls, nms⟩, cn, fn, gl, free, []⟩
abbrev hk : PySem.W.Hook := hookW 6 wh
def ob (s : PySem.W.SharedT) : He.AlD := obsWG 6 wh (HandSHeadRun.getT s)
theorem ob_eq (s : PySem.W.SharedT) : ob s = hk.obs s.abs := obsWG_eq (HandSHeadRun.getT_eq s)
abbrev R : PySem.W.OpenRow := PySem.W.OpenLaw.row PySem.Challenge.rw_similarroads_k67_square_matrices
def loose : List Str := (["_wall", "__name__", "Fault", "ZeroDivisor", "Malformed", "Refused", "NoText", "PIECE", "written_integer", "is_integer", "Ratio", "PRIMES", "is_small_prime", "Residue", "DIGITS", "whole_number", "read_ratio", "Ground", "taken", "MOST_ROWS", "MOST_WIDTH", "taken_rows", "row_times", "Matrix", "check_alike", "check_square", "unit", "nothing", "_law_state", "_law_odd"] : List Str) ++ (["_law_honest", "_law_take"] : List Str)
set_option maxHeartbeats 0 in
theorem head_run (w : World) : HandSHeadRun.RunEqI R (PySem.W.view R.prog [0, 38]) hk ob 40000 loose w := by
  unfold HandSHeadRun.RunEqI
  kernel_rfl
end K67

set_option Elab.async false
set_option linter.all false
set_option maxRecDepth 100000
set_option maxHeartbeats 4000000
/-! Sd1: how the pure values stand in the abstract heap. -/
namespace Sd
open PySem PySem.Spec PyProof.Rows L2 Pi


mutual
inductive Rp (G : Geo) (F : Hp) (ca : List Addr) : D → V → Prop
  | non : Rp G F ca .non .non
  | bl (b : Bool) : Rp G F ca (.bl b) (.bl b)
  | int (i : Int) : Rp G F ca (.int i) (.int i)
  | str (x : Str) : Rp G F ca (.str x) (.str x)
  | tup {xs : List D} {a : Addr} {vs : List V} : SqT G.K F a vs → Rps G F ca xs vs → Rp G F ca (.tup xs) (.ref a)
  | lst {xs : List D} {a : Addr} {vs : List V} : F a = some (.lst vs) → Rps G F ca xs vs → Rp G F ca (.lst xs) (.ref a)
  | arg {xs : List D} {a : Addr} {vs : List V} : SqL G.K F a vs → Rps G F ca xs vs → Rp G F ca (.arg xs) (.ref a)
  | cell {k : Nat} {a : Addr} : ca[k]? = some a → Rp G F ca (.cell k) (.ref a)
  | ins {c : Nat} {fs : List D} {C : Kl} {a dx : Addr} {vs : List V} : G.T.cls[c]? = some C → vs.length = C.flds.length → F a = some (.ins (G.cad c) dx ((C.flds.map G.nm).zip vs)) → Rps G F ca fs vs → Rp G F ca (.ins c fs) (.ref a)
  | fn (i : Nat) : Rp G F ca (.fn i) (.ref (G.fad i))
  | cls (c : Nat) : Rp G F ca (.cls c) (.ref (G.cad c))
inductive Rps (G : Geo) (F : Hp) (ca : List Addr) : List D → List V → Prop
  | nil : Rps G F ca [] []
  | cons {d : D} {ds : List D} {v : V} {vs : List V} : Rp G F ca d v → Rps G F ca ds vs → Rps G F ca (d :: ds) (v :: vs)
end
section
variable {G : Geo} {F F' : Hp} {ca ca' : List Addr}
theorem Rps.length : ∀ {ds : List D} {vs : List V}, Rps G F ca ds vs → ds.length = vs.length
  | _, _, .nil => rfl
  | _, _, .cons _ t => by simp [Rps.length t]
theorem Rps.append : ∀ {ds es : List D} {vs ws : List V}, Rps G F ca ds vs → Rps G F ca es ws → Rps G F ca (ds ++ es) (vs ++ ws)
  | _, _, _, _, .nil, s => s
  | _, _, _, _, .cons r t, s => .cons r (t.append s)
theorem Rps.get : ∀ {ds : List D} {vs : List V} {i : Nat} {d : D}, Rps G F ca ds vs → ds[i]? = some d → ∃ v, vs[i]? = some v ∧ Rp G F ca d v
  | _, _, _, _, .nil, e => by simp at e
  | _, _, 0, _, .cons r _, e => by simp at e; subst e; exact ⟨_, rfl, r⟩
  | _, _, i + 1, d, .cons _ t, e => by
    obtain ⟨v, h1, h2⟩ := t.get (i := i) (d := d) (by simpa using e)
    exact ⟨v, by simpa using h1, h2⟩
theorem Rps.getV : ∀ {ds : List D} {vs : List V} {i : Nat} {v : V}, Rps G F ca ds vs → vs[i]? = some v → ∃ d, ds[i]? = some d ∧ Rp G F ca d v
  | _, _, _, _, .nil, e => by simp at e
  | _, _, 0, _, .cons r _, e => by simp at e; subst e; exact ⟨_, rfl, r⟩
  | _, _, i + 1, d, .cons _ t, e => by
    obtain ⟨v, h1, h2⟩ := t.getV (i := i) (v := d) (by simpa using e)
    exact ⟨v, by simpa using h1, h2⟩
theorem Rps.take : ∀ {ds : List D} {vs : List V} (n : Nat), Rps G F ca ds vs → Rps G F ca (ds.take n) (vs.take n)
  | _, _, 0, _ => .nil
  | _, _, _ + 1, .nil => .nil
  | _, _, n + 1, .cons r t => .cons r (t.take n)
theorem Rps.drop : ∀ {ds : List D} {vs : List V} (n : Nat), Rps G F ca ds vs → Rps G F ca (ds.drop n) (vs.drop n)
  | _, _, 0, h => h
  | _, _, _ + 1, .nil => .nil
  | _, _, n + 1, .cons _ t => t.drop n
theorem Rps.set {d : D} {v : V} (r : Rp G F ca d v) : ∀ {ds : List D} {vs : List V} (n : Nat), Rps G F ca ds vs → Rps G F ca (ds.set n d) (vs.set n v)
  | _, _, _, .nil => .nil
  | _, _, 0, .cons _ t => .cons r t
  | _, _, n + 1, .cons q t => .cons q (Rps.set r n t)
theorem Rps.reverse : ∀ {ds : List D} {vs : List V}, Rps G F ca ds vs → Rps G F ca ds.reverse vs.reverse
  | _, _, .nil => .nil
  | _, _, .cons r t => by
    rw [List.reverse_cons, List.reverse_cons]
    exact t.reverse.append (.cons r .nil)
theorem Rps.dropLast {ds : List D} {vs : List V} (r : Rps G F ca ds vs) : Rps G F ca ds.dropLast vs.dropLast := by
  rw [List.dropLast_eq_take, List.dropLast_eq_take, r.length]
  exact r.take _
theorem Rps.eraseIdx : ∀ {ds : List D} {vs : List V} (n : Nat), Rps G F ca ds vs → Rps G F ca (ds.eraseIdx n) (vs.eraseIdx n)
  | _, _, _, .nil => .nil
  | _, _, 0, .cons _ t => t
  | _, _, n + 1, .cons q t => .cons q (t.eraseIdx n)
theorem Rps.rep : ∀ {ds : List D} {vs : List V} (n : Nat), Rps G F ca ds vs → Rps G F ca (List.replicate n ds).flatten (List.replicate n vs).flatten
  | _, _, 0, _ => .nil
  | _, _, n + 1, r => by
    rw [List.replicate_succ, List.replicate_succ, List.flatten_cons, List.flatten_cons]
    exact r.append (r.rep n)
end

/-- F' knows what F knows -/
def Le (F F' : Hp) : Prop := ∀ a o, F a = some o → F' a = some o
theorem Le.rfl' {F : Hp} : Le F F := fun _ _ h => h
theorem Le.trans {F F1 F2 : Hp} (a : Le F F1) (b : Le F1 F2) : Le F F2 := fun c o h => b c o (a c o h)
theorem sqT_le {K : PySem.W.Frag} {F F' : Hp} {a : Addr} {vs : List V} (h : SqT K F a vs) (l : Le F F') : SqT K F' a vs := by
  rcases h with (h | ⟨o, h⟩) | h
  · exact .inl (.inl (l _ _ h))
  · exact .inl (.inr ⟨o, l _ _ h⟩)
  · exact .inr h
theorem sqL_le {K : PySem.W.Frag} {F F' : Hp} {a : Addr} {vs : List V} (h : SqL K F a vs) (l : Le F F') : SqL K F' a vs := by
  rcases h with (h | ⟨o, h⟩) | h
  · exact .inl (.inl (l _ _ h))
  · exact .inl (.inr ⟨o, l _ _ h⟩)
  · exact .inr h
/-- the cells' places: more may have come behind -/
def Pre (ca ca' : List Addr) : Prop := ∀ (k : Nat) a, ca[k]? = some a → ca'[k]? = some a
theorem Pre.rfl' {ca : List Addr} : Pre ca ca := fun _ _ h => h
theorem Pre.trans {a b c : List Addr} (h : Pre a b) (g : Pre b c) : Pre a c := fun k x e => g k x (h k x e)
theorem Pre.app {a b : List Addr} : Pre a (a ++ b) := fun k x e => by
  rw [List.getElem?_append_left (List.getElem?_eq_some_iff.mp e).1]; exact e
theorem Pre.len {a b : List Addr} (h : Pre a b) : a.length ≤ b.length := by
  cases e : a.length with
  | zero => exact Nat.zero_le _
  | succ n =>
    have h1 : a[n]? = some (a[n]'(by omega)) := List.getElem?_eq_getElem (by omega)
    have h2 := h n _ h1
    have := (List.getElem?_eq_some_iff.mp h2).1
    omega
theorem Pre.mem {a b : List Addr} (h : Pre a b) {x : Addr} (m : x ∈ a) : x ∈ b := by
  obtain ⟨k, e⟩ := List.getElem?_of_mem m
  exact List.mem_of_getElem? (h k x e)
section
variable {G : Geo} {F F' : Hp} {ca ca' : List Addr}
mutual
theorem Rp.mono (l : Le F F') (p : Pre ca ca') : ∀ {d : D} {v : V}, Rp G F ca d v → Rp G F' ca' d v
  | _, _, .non => .non
  | _, _, .bl b => .bl b
  | _, _, .int i => .int i
  | _, _, .str x => .str x
  | _, _, .tup h r => .tup (sqT_le h l) (Rps.mono l p r)
  | _, _, .lst h r => .lst (l _ _ h) (Rps.mono l p r)
  | _, _, .arg h r => .arg (sqL_le h l) (Rps.mono l p r)
  | _, _, .cell h => .cell (p _ _ h)
  | _, _, .ins h n f r => .ins h n (l _ _ f) (Rps.mono l p r)
  | _, _, .fn i => .fn i
  | _, _, .cls c => .cls c
theorem Rps.mono (l : Le F F') (p : Pre ca ca') : ∀ {d : List D} {v : List V}, Rps G F ca d v → Rps G F' ca' d v
  | _, _, .nil => .nil
  | _, _, .cons r t => .cons (Rp.mono l p r) (Rps.mono l p t)
end
end

/-- what stands at a cell's place -/
def CelAt (G : Geo) (F : Hp) (ca : List Addr) (H : Hp) (a : Addr) : Cel → Prop
  | .lst xs => ∃ vs, H a = some (.lst vs) ∧ Rps G F ca xs vs
  | .obj c fs => ∃ dx vs, H a = some (.ins (G.cad c) dx ((fs.map fun q => G.nm q.1).zip vs)) ∧ vs.length = fs.length ∧ Rps G F ca (fs.map (·.2)) vs
/-- the frozen part and the cells stand in the heap -/
structure Gd (G : Geo) (F : Hp) (ca : List Addr) (μ : Mu) (H : Hp) : Prop where
  le : Le F H
  len : ca.length = μ.length
  nd : ca.Nodup
  out : ∀ a ∈ ca, F a = none
  cel : ∀ (k : Nat) (a : Addr) (c : Cel), ca[k]? = some a → μ[k]? = some c → CelAt G F ca H a c
/-- what may have changed -/
structure Xt (lo : Nat) (F : Hp) (ca : List Addr) (μ : Mu) (H F' : Hp) (ca' : List Addr) (μ' : Mu) (H' : Hp) : Prop where
  fle : Le F F'
  pre : Pre ca ca'
  ff : ∀ a o, F' a = some o → F a = some o ∨ H a = none
  cf : ∀ a ∈ ca', a ∈ ca ∨ H a = none
  fr : ∀ a o, H a = some o → a ∉ ca → H' a = some o
  nn : ∀ a, H a ≠ none → H' a ≠ none
  mu : ∀ k, k < lo → μ'[k]? = μ[k]?
  hm : ∀ (k : Nat) (a : Addr), k < lo → ca[k]? = some a → H' a = H a
  ml : μ.length ≤ μ'.length
section
variable {lo : Nat} {F F1 F2 H H1 H2 : Hp} {ca ca1 ca2 : List Addr} {μ μ1 μ2 : Mu}
theorem Xt.rfl' : Xt lo F ca μ H F ca μ H := ⟨Le.rfl', Pre.rfl', fun _ _ h => .inl h, fun _ h => .inl h, fun _ _ h _ => h, fun _ h => h, fun _ _ => rfl, fun _ _ _ _ => rfl, Nat.le_refl _⟩
theorem Xt.trans (x : Xt lo F ca μ H F1 ca1 μ1 H1) (y : Xt lo F1 ca1 μ1 H1 F2 ca2 μ2 H2) : Xt lo F ca μ H F2 ca2 μ2 H2 where
  fle := x.fle.trans y.fle
  pre := x.pre.trans y.pre
  ff := fun a o h => by
    rcases y.ff a o h with h | h
    · exact x.ff a o h
    · refine .inr ?_
      cases e : H a with
      | none => rfl
      | some u => exact absurd h (x.nn a (by rw [e]; simp))
  cf := fun a h => by
    rcases y.cf a h with h | h
    · exact x.cf a h
    · refine .inr ?_
      cases e : H a with
      | none => rfl
      | some u => exact absurd h (x.nn a (by rw [e]; simp))
  fr := fun a o h n => y.fr a o (x.fr a o h n) fun m => by
    rcases x.cf a m with m | m
    · exact n m
    · rw [h] at m; cases m
  nn := fun a h => y.nn a (x.nn a h)
  mu := fun k h => (y.mu k h).trans (x.mu k h)
  hm := fun k a h e => (y.hm k a h (x.pre k a e)).trans (x.hm k a h e)
  ml := Nat.le_trans x.ml y.ml
theorem Xt.lower {lo' : Nat} (x : Xt lo F ca μ H F1 ca1 μ1 H1) (h : lo' ≤ lo) : Xt lo' F ca μ H F1 ca1 μ1 H1 :=
  ⟨x.fle, x.pre, x.ff, x.cf, x.fr, x.nn, fun k z => x.mu k (Nat.lt_of_lt_of_le z h), fun k a z => x.hm k a (Nat.lt_of_lt_of_le z h), x.ml⟩
end

/-- slots -/
structure EnvR (G : Geo) (F : Hp) (ca : List Addr) (env : En) (σ : L2.St) : Prop where
  len : env.length = σ.length
  get : ∀ (i : Nat) (d : D), env[i]? = some (some d) → ∃ v : V, σ[i]? = some (some v) ∧ Rp G F ca d v
section
variable {G : Geo} {F F' : Hp} {ca ca' : List Addr} {env : En} {σ : L2.St}
theorem EnvR.mono (e : EnvR G F ca env σ) (l : Le F F') (p : Pre ca ca') : EnvR G F' ca' env σ :=
  ⟨e.len, fun i d h => let ⟨v, h1, h2⟩ := e.get i d h; ⟨v, h1, h2.mono l p⟩⟩
theorem EnvR.set (e : EnvR G F ca env σ) {i : Nat} {d : D} {v : V} (r : Rp G F ca d v) : EnvR G F ca (env.set i (some d)) (σ.set i (some v)) := by
  refine ⟨by simp [e.len], fun j d' h => ?_⟩
  by_cases hj : i = j
  · subst hj
    have hl : i < env.length := by
      have := (List.getElem?_eq_some_iff.mp h).1
      simpa using this
    rw [List.getElem?_set_self hl] at h
    cases h
    exact ⟨v, by rw [List.getElem?_set_self (by rw [← e.len]; exact hl)], r⟩
  · rw [List.getElem?_set_ne hj] at h
    obtain ⟨v', h1, h2⟩ := e.get j d' h
    exact ⟨v', by rw [List.getElem?_set_ne hj]; exact h1, h2⟩
end

/-! ### new things -/
section
variable {G : Geo} {lo : Nat} {F H : Hp} {ca : List Addr} {μ : Mu} {p : Addr} {o : HO}
theorem upd_le {a : Addr} (h : F a = none) : Le F (upd F a o) := fun b u e => by
  rw [upd_ne (ne_of_none e h)]; exact e
theorem Gd.none_of (g : Gd G F ca μ H) (h : H p = none) : F p = none := by
  cases e : F p with
  | none => rfl
  | some u => rw [g.le _ _ e] at h; cases h
theorem Gd.not_mem (g : Gd G F ca μ H) (h : H p = none) : p ∉ ca := fun m => by
  obtain ⟨k, e⟩ := List.getElem?_of_mem m
  have hk : k < μ.length := by rw [← g.len]; exact (List.getElem?_eq_some_iff.mp e).1
  have := g.cel k p _ e (List.getElem?_eq_getElem hk)
  revert this
  cases μ[k] with
  | lst xs => rintro ⟨vs, h1, _⟩; rw [h] at h1; cases h1
  | obj c fs => rintro ⟨dx, vs, h1, _⟩; rw [h] at h1; cases h1
theorem CelAt.mono {F F' H H' : Hp} {ca ca' : List Addr} {a : Addr} {c : Cel} (x : CelAt G F ca H a c) (l : Le F F') (q : Pre ca ca') (h : H' a = H a) : CelAt G F' ca' H' a c := by
  cases c with
  | lst xs => obtain ⟨vs, h1, r⟩ := x; exact ⟨vs, by rw [h]; exact h1, r.mono l q⟩
  | obj c fs => obtain ⟨dx, vs, h1, n, r⟩ := x; exact ⟨dx, vs, by rw [h]; exact h1, n, r.mono l q⟩
/-- a frozen thing is laid -/
theorem Gd.laid (g : Gd G F ca μ H) (h : H p = none) (o : HO) : Gd G (upd F p o) ca μ (upd H p o) where
  le := fun a u e => by
    by_cases z : a = p
    · subst z; rw [upd_same] at e ⊢; exact e
    · rw [upd_ne z] at e ⊢; exact g.le _ _ e
  len := g.len
  nd := g.nd
  out := fun a m => by
    have z : a ≠ p := fun z => g.not_mem h (by rw [← z]; exact m)
    rw [upd_ne z]; exact g.out a m
  cel := fun k a c e1 e2 => (g.cel k a c e1 e2).mono (upd_le (g.none_of h)) Pre.rfl' (upd_ne fun z => g.not_mem h (z ▸ List.mem_of_getElem? e1))
theorem Xt.laid (g : Gd G F ca μ H) (h : H p = none) (o : HO) : Xt lo F ca μ H (upd F p o) ca μ (upd H p o) where
  fle := upd_le (g.none_of h)
  pre := Pre.rfl'
  ff := fun a u e => by
    by_cases z : a = p
    · subst z; exact .inr h
    · rw [upd_ne z] at e; exact .inl e
  cf := fun a m => .inl m
  fr := fun a u e _ => upd_le h a u e
  nn := fun a n => by
    by_cases z : a = p
    · subst z; exact absurd h n
    · rw [upd_ne z]; exact n
  mu := fun _ _ => rfl
  hm := fun k a _ e => upd_ne fun z => g.not_mem h (z ▸ List.mem_of_getElem? e)
  ml := Nat.le_refl _
/-- something that the values don't speak of is laid -/
theorem Gd.other (g : Gd G F ca μ H) (h : H p = none) (o : HO) : Gd G F ca μ (upd H p o) where
  le := g.le.trans (upd_le h)
  len := g.len
  nd := g.nd
  out := g.out
  cel := fun k a c e1 e2 => (g.cel k a c e1 e2).mono Le.rfl' Pre.rfl' (upd_ne fun z => g.not_mem h (z ▸ List.mem_of_getElem? e1))
theorem Xt.other (g : Gd G F ca μ H) (h : H p = none) (o : HO) : Xt lo F ca μ H F ca μ (upd H p o) where
  fle := Le.rfl'
  pre := Pre.rfl'
  ff := fun a u e => .inl e
  cf := fun a m => .inl m
  fr := fun a u e _ => upd_le h a u e
  nn := fun a n => by
    by_cases z : a = p
    · subst z; exact absurd h n
    · rw [upd_ne z]; exact n
  mu := fun _ _ => rfl
  hm := fun k a _ e => upd_ne fun z => g.not_mem h (z ▸ List.mem_of_getElem? e)
  ml := Nat.le_refl _
/-- a cell is laid -/
theorem Gd.celled (g : Gd G F ca μ H) (h : H p = none) {o : HO} {c : Cel} (x : ∀ H', H' p = some o → CelAt G F ca H' p c) : Gd G F (ca ++ [p]) (μ ++ [c]) (upd H p o) where
  le := g.le.trans (upd_le h)
  len := by simp [g.len]
  nd := by
    rw [List.nodup_append]
    refine ⟨g.nd, by simp, fun a m b mb => ?_⟩
    rw [List.mem_singleton] at mb
    subst mb
    exact fun z => g.not_mem h (z ▸ m)
  out := fun a m => by
    rcases List.mem_append.mp m with m | m
    · exact g.out a m
    · rw [List.mem_singleton] at m; subst m; exact g.none_of h
  cel := fun k a u e1 e2 => by
    by_cases hk : k < ca.length
    · rw [List.getElem?_append_left hk] at e1
      rw [List.getElem?_append_left (by rw [← g.len]; exact hk)] at e2
      exact (g.cel k a u e1 e2).mono Le.rfl' Pre.app (upd_ne fun z => g.not_mem h (z ▸ List.mem_of_getElem? e1))
    · rw [List.getElem?_append_right (by omega)] at e1
      rw [List.getElem?_append_right (by rw [← g.len]; omega), ← g.len] at e2
      have hz : k - ca.length = 0 := by
        have := (List.getElem?_eq_some_iff.mp e1).1
        simp at this; omega
      rw [hz] at e1 e2
      simp at e1 e2
      subst e1 e2
      exact (x _ upd_same).mono Le.rfl' Pre.app rfl
theorem Xt.celled (g : Gd G F ca μ H) (h : H p = none) (hl : lo ≤ μ.length) (o : HO) (c : Cel) : Xt lo F ca μ H F (ca ++ [p]) (μ ++ [c]) (upd H p o) where
  fle := Le.rfl'
  pre := Pre.app
  ff := fun a u e => .inl e
  cf := fun a m => by
    rcases List.mem_append.mp m with m | m
    · exact .inl m
    · rw [List.mem_singleton] at m; subst m; exact .inr h
  fr := fun a u e _ => upd_le h a u e
  nn := fun a n => by
    by_cases z : a = p
    · subst z; exact absurd h n
    · rw [upd_ne z]; exact n
  mu := fun k hk => List.getElem?_append_left (Nat.lt_of_lt_of_le hk hl)
  hm := fun k a _ e => upd_ne fun z => g.not_mem h (z ▸ List.mem_of_getElem? e)
  ml := by simp
theorem nodup_ix' {ca : List Addr} (hN : ca.Nodup) {i j : Nat} {x : Addr} (a : ca[i]? = some x) (b : ca[j]? = some x) : i = j := by
  obtain ⟨h1, e1⟩ := List.getElem?_eq_some_iff.mp a
  obtain ⟨h2, e2⟩ := List.getElem?_eq_some_iff.mp b
  exact (List.getElem_inj hN).mp (e1.trans e2.symm)
/-- a cell is written -/
theorem Gd.wrote (g : Gd G F ca μ H) {k : Nat} {a : Addr} (ha : ca[k]? = some a) {o : HO} {c : Cel} (x : ∀ H', H' a = some o → CelAt G F ca H' a c) : Gd G F ca (μ.set k c) (upd H a o) where
  le := fun b u e => by
    have : b ≠ a := fun z => by
      have := g.out a (List.mem_of_getElem? ha)
      rw [← z, e] at this; cases this
    rw [upd_ne this]; exact g.le _ _ e
  len := by simp [g.len]
  nd := g.nd
  out := g.out
  cel := fun j b u e1 e2 => by
    by_cases hj : k = j
    · subst hj
      rw [ha] at e1; cases e1
      have hk : k < μ.length := by rw [← g.len]; exact (List.getElem?_eq_some_iff.mp ha).1
      rw [List.getElem?_set_self hk] at e2; cases e2
      exact x _ upd_same
    · rw [List.getElem?_set_ne hj] at e2
      exact (g.cel j b u e1 e2).mono Le.rfl' Pre.rfl' (upd_ne fun z => hj (nodup_ix' g.nd ha (z ▸ e1)))
theorem Xt.wrote (g : Gd G F ca μ H) {k : Nat} {a : Addr} (ha : ca[k]? = some a) (hk : lo ≤ k) (o : HO) (c : Cel) : Xt lo F ca μ H F ca (μ.set k c) (upd H a o) where
  fle := Le.rfl'
  pre := Pre.rfl'
  ff := fun a u e => .inl e
  cf := fun a m => .inl m
  fr := fun b u e n => by
    have z : b ≠ a := fun z => n (by rw [z]; exact List.mem_of_getElem? ha)
    rw [upd_ne z]; exact e
  nn := fun b n => by
    by_cases z : b = a
    · subst z; rw [upd_same]; simp
    · rw [upd_ne z]; exact n
  mu := fun j hj => List.getElem?_set_ne (by omega)
  hm := fun j b hj e => upd_ne fun z => by
    have := nodup_ix' g.nd ha (z ▸ e)
    omega
  ml := by simp
end
end Sd

set_option Elab.async false
set_option linter.all false
set_option maxRecDepth 100000
set_option maxHeartbeats 4000000
/-! Sd2: readings of expressions by the pure evaluator. -/
namespace Sd
open PySem PySem.Spec PyProof.Rows L2 Pi

/-- an exception that has been raised: its class's number, its fields -/
def ExAt (G : Geo) (F : Hp) (ca : List Addr) (H : Hp) (c : Nat) (fs : List D) (d : Option Addr) : Prop :=
  (fs = [] ∧ d = none) ∨ ∃ (C : Kl) (dd : Addr) (vs : List V), G.T.cls[c]? = some C ∧ d = some dd ∧ vs.length = C.flds.length ∧ H dd = some (.xd ((C.flds.map G.nm).zip vs)) ∧ Rps G F ca fs vs
/-- what is wanted behind an evaluation -/
def Pk {α β : Type} (G : Geo) (lo : Nat) (R : Hp → List Addr → α → β → Prop) (F : Hp) (ca : List Addr) (μ : Mu) (H : Hp) (o : Out α) (σ : L2.St) (Q : β → Hp → Prop) (W : WX) : Prop := match o with
  | .ok a μ' => ∀ b F' ca' H', Xt lo F ca μ H F' ca' μ' H' → Gd G F' ca' μ' H' → R F' ca' a b → Q b H'
  | .ex c fs μ' => ∀ d F' ca' H', Xt lo F ca μ H F' ca' μ' H' → Gd G F' ca' μ' H' → ExAt G F' ca' H' c fs d → W (.ref (G.cad c)) d σ H'
  | .stuck => False
structure Here (G : Geo) (lo : Nat) (F : Hp) (ca : List Addr) (μ : Mu) (H : Hp) (env : En) (σ : L2.St) : Prop where
  hl : lo ≤ μ.length
  g : Gd G F ca μ H
  e : EnvR G F ca env σ
section
variable {G : Geo} {lo : Nat} {F F' H H' : Hp} {ca ca' : List Addr} {μ μ' : Mu} {env : En} {σ : L2.St} {W : WX}
theorem Here.step (h : Here G lo F ca μ H env σ) (x : Xt lo F ca μ H F' ca' μ' H') (g : Gd G F' ca' μ' H') : Here G lo F' ca' μ' H' env σ :=
  ⟨Nat.le_trans h.hl x.ml, g, h.e.mono x.fle x.pre⟩
theorem Pk.step {α β : Type} {R : Hp → List Addr → α → β → Prop} {o : Out α} {Q : β → Hp → Prop} (x : Xt lo F ca μ H F' ca' μ' H') (h : Pk G lo R F ca μ H o σ Q W) : Pk G lo R F' ca' μ' H' o σ Q W := by
  cases o with
  | ok a m => exact fun b F2 ca2 H2 y g r => h b F2 ca2 H2 (x.trans y) g r
  | ex c fs m => exact fun d F2 ca2 H2 y g r => h d F2 ca2 H2 (x.trans y) g r
  | stuck => exact h
theorem Pk.bind {α β γ δ : Type} {R : Hp → List Addr → α → β → Prop} {R' : Hp → List Addr → γ → δ → Prop} {o : Out α} {f : α → Mu → Out γ} {Q : δ → Hp → Prop} (h : Pk G lo R' F ca μ H (o.bind f) σ Q W) :
    Pk G lo R F ca μ H o σ (fun b H1 => ∃ F1 ca1 μ1 a, Xt lo F ca μ H F1 ca1 μ1 H1 ∧ Gd G F1 ca1 μ1 H1 ∧ R F1 ca1 a b ∧ Pk G lo R' F1 ca1 μ1 H1 (f a μ1) σ Q W) W := by
  cases o with
  | ok a m => exact fun b F2 ca2 H2 y g r => ⟨F2, ca2, m, a, y, g, r, Pk.step y h⟩
  | ex c fs m => exact h
  | stuck => exact h
theorem Pk.imp {α β : Type} {R : Hp → List Addr → α → β → Prop} {o : Out α} {Q Q' : β → Hp → Prop} (h : Pk G lo R F ca μ H o σ Q W) (i : ∀ b H', Q b H' → Q' b H') : Pk G lo R F ca μ H o σ Q' W := by
  cases o with
  | ok a m => exact fun b F2 ca2 H2 y g r => i _ _ (h b F2 ca2 H2 y g r)
  | ex c fs m => exact h
  | stuck => exact h
/-- a value where the heap is as it was -/
theorem Pk.now {α β : Type} {R : Hp → List Addr → α → β → Prop} {a : α} {b : β} {Q : β → Hp → Prop} (h : Pk G lo R F ca μ H (.ok a μ) σ Q W) (g : Gd G F ca μ H) (r : R F ca a b) : Q b H := h b F ca H Xt.rfl' g r
/-- a new list -/
theorem newL_ok {c : Bool} {xs : List D} {vs : List V} {Q : VK} (g : Gd G F ca μ H) (hl : lo ≤ μ.length) (r : Rps G F ca xs vs) (h : Pk G lo (Rp G) F ca μ H (newL c xs μ) σ Q W) :
    vs.length ≤ sizeLine ∧ ∀ p, H p = none → Q (.ref p) (upd H p (.lst vs)) := by
  unfold newL at h
  split at h
  · exact h.elim
  · rename_i hb
    have hz : vs.length ≤ sizeLine := by
      rw [sizeLine_eq, ← r.length]
      have : big = 16777216 := rfl
      omega
    refine ⟨hz, fun p hp => ?_⟩
    cases c with
    | true => exact h (.ref p) F (ca ++ [p]) _ (Xt.celled g hp hl _ _) (g.celled hp fun H' e => ⟨vs, e, r⟩) (.cell (by rw [List.getElem?_append_right (by rw [g.len]; exact Nat.le_refl _), g.len]; simp))
    | false => exact h (.ref p) (upd F p (.lst vs)) ca _ (Xt.laid g hp _) (g.laid hp _) (.lst upd_same (r.mono (upd_le (g.none_of hp)) Pre.rfl'))
theorem newT_ok {xs : List D} {vs : List V} {Q : VK} (g : Gd G F ca μ H) (r : Rps G F ca xs vs) (h : Pk G lo (Rp G) F ca μ H (newT xs μ) σ Q W) :
    vs.length ≤ sizeLine ∧ ∀ p, H p = none → Q (.ref p) (upd H p (.tup vs)) := by
  unfold newT at h
  split at h
  · exact h.elim
  · rename_i hb
    have hz : vs.length ≤ sizeLine := by
      rw [sizeLine_eq, ← r.length]
      have : big = 16777216 := rfl
      omega
    exact ⟨hz, fun p hp => h (.ref p) (upd F p (.tup vs)) ca _ (Xt.laid g hp _) (g.laid hp _) (.tup (SqT.of upd_same) (r.mono (upd_le (g.none_of hp)) Pre.rfl'))⟩
end
theorem PE.imp {X : Cx} {e : Expr} {t t' : TE} (h : PE X e t) (i : ∀ σ H Q, t' σ H Q → t σ H Q) : PE X e t' := ⟨fun pins s σ H Q I q => h.run pins s σ H Q I (i _ _ _ q)⟩
theorem PT.imp {X : Cx} {e : Expr} {t t' : TT} (h : PT X e t) (i : ∀ σ H Q, t' σ H Q → t σ H Q) : PT X e t' := ⟨fun pins s σ H Q I q => h.run pins s σ H Q I (i _ _ _ q)⟩
theorem PA.imp {X : Cx} {e : List Expr} {t t' : TA} (h : PA X e t) (i : ∀ σ H Q, t' σ H Q → t σ H Q) : PA X e t' := ⟨fun pos pins s σ H Q I q => h.run pos pins s σ H Q I (i _ _ _ q)⟩
theorem PS.imp {X : Cx} {e : Stmt} {t t' : TS} (h : PS X e t) (i : ∀ D σ H, t' D σ H → t D σ H) : PS X e t' := ⟨fun pins s σ H Q I q => h.run pins s σ H Q I (i _ _ _ q)⟩
theorem PSs.imp {X : Cx} {e : List Stmt} {t t' : TS} (h : PSs X e t) (i : ∀ D σ H, t' D σ H → t D σ H) : PSs X e t' := ⟨fun pins s σ H Q I q => h.run pins s σ H Q I (i _ _ _ q)⟩

/-! ### readings -/
section
variable (G : Geo) (cl : Cll) (lo n : Nat)
def tD (ie : IE) (W : WX) : TE := fun σ H Q => ∃ F ca μ env, Here G lo F ca μ H env σ ∧ Pk G lo (Rp G) F ca μ H (evE G.T cl lo n env ie μ) σ Q W
def tDs (es : List IE) (W : WX) : TA := fun σ H Q => ∃ F ca μ env, Here G lo F ca μ H env σ ∧ Pk G lo (Rps G) F ca μ H (evL (evE G.T cl lo n env) es μ) σ Q W
/-- a test -/
def Eqb : Hp → List Addr → Bool → Bool → Prop := fun _ _ a b => a = b
def tDt (ie : IE) (W : WX) : TT := fun σ H Q => ∃ F ca μ env, Here G lo F ca μ H env σ ∧ Pk G lo Eqb F ca μ H (tru (evE G.T cl lo n env ie μ)) σ Q W
end
section
variable {G : Geo} {cl : Cll} {lo n : Nat} {F H : Hp} {ca : List Addr} {μ : Mu} {env : En} {σ : L2.St} {W : WX} {Q : VK}
/-- behind two operands -/
def Bin (G : Geo) (lo : Nat) (f : D → D → Mu → Out D) (σ : L2.St) (Q : VK) (W : WX) (x y : V) (H : Hp) : Prop :=
  ∃ F ca μ d e, lo ≤ μ.length ∧ Gd G F ca μ H ∧ Rp G F ca d x ∧ Rp G F ca e y ∧ Pk G lo (Rp G) F ca μ H (f d e μ) σ Q W
def Una (G : Geo) (lo : Nat) (f : D → Mu → Out D) (σ : L2.St) (Q : VK) (W : WX) (x : V) (H : Hp) : Prop :=
  ∃ F ca μ d, lo ≤ μ.length ∧ Gd G F ca μ H ∧ Rp G F ca d x ∧ Pk G lo (Rp G) F ca μ H (f d μ) σ Q W
def Lis (G : Geo) (lo : Nat) (f : List D → Mu → Out D) (σ : L2.St) (Q : VK) (W : WX) (xs : List V) (H : Hp) : Prop :=
  ∃ F ca μ ds, lo ≤ μ.length ∧ Gd G F ca μ H ∧ Rps G F ca ds xs ∧ Pk G lo (Rp G) F ca μ H (f ds μ) σ Q W
theorem one_of {a : IE} {f : D → Mu → Out D} (hh : Here G lo F ca μ H env σ) (h : Pk G lo (Rp G) F ca μ H ((evE G.T cl lo n env a μ).bind f) σ Q W) : tD G cl lo n a W σ H (Una G lo f σ Q W) :=
  ⟨F, ca, μ, env, hh, (Pk.bind h).imp fun _ _ ⟨F1, ca1, μ1, d, x, g, r, q⟩ => ⟨F1, ca1, μ1, d, Nat.le_trans hh.hl x.ml, g, r, q⟩⟩
theorem two_of {a b : IE} {f : D → D → Mu → Out D} (hh : Here G lo F ca μ H env σ) (h : Pk G lo (Rp G) F ca μ H ((evE G.T cl lo n env a μ).bind fun x μ => (evE G.T cl lo n env b μ).bind fun y μ => f x y μ) σ Q W) :
    tD G cl lo n a W σ H fun x H1 => tD G cl lo n b W σ H1 fun y H2 => Bin G lo f σ Q W x y H2 := by
  refine ⟨F, ca, μ, env, hh, (Pk.bind h).imp fun v H1 ⟨F1, ca1, μ1, d, x, g, r, q⟩ => ?_⟩
  have hh1 := hh.step x g
  exact ⟨F1, ca1, μ1, env, hh1, (Pk.bind q).imp fun u H2 ⟨F2, ca2, μ2, e, y, g2, r2, q2⟩ => ⟨F2, ca2, μ2, d, e, Nat.le_trans hh1.hl y.ml, g2, r.mono y.fle y.pre, r2, q2⟩⟩
theorem lis_of {es : List IE} {f : List D → Mu → Out D} (hh : Here G lo F ca μ H env σ) (h : Pk G lo (Rp G) F ca μ H ((evL (evE G.T cl lo n env) es μ).bind f) σ Q W) : tDs G cl lo n es W σ H (Lis G lo f σ Q W) :=
  ⟨F, ca, μ, env, hh, (Pk.bind h).imp fun _ _ ⟨F1, ca1, μ1, d, x, g, r, q⟩ => ⟨F1, ca1, μ1, d, Nat.le_trans hh.hl x.ml, g, r, q⟩⟩

/-! ### arguments -/
variable {X : Cx}
theorem pa_nilD : PA X [] (tDs G cl lo n [] W) := PA.imp pa_nil fun σ H Q ⟨F, ca, μ, env, hh, h⟩ => h.now hh.g .nil
theorem pa_consD {e : Expr} {es : List Expr} {ie : IE} {ies : List IE} (h : PE X e (tD G cl lo n ie W)) (hs : PA X es (tDs G cl lo n ies W)) (st : starEach (e :: es) X.env = (false, eval e X.env) :: starEach es X.env) :
    PA X (e :: es) (tDs G cl lo n (ie :: ies) W) := by
  refine PA.imp (pa_cons h hs st) fun σ H Q ⟨F, ca, μ, env, hh, q⟩ => ?_
  have q : Pk G lo (Rps G) F ca μ H ((evE G.T cl lo n env ie μ).bind fun d μ => (evL (evE G.T cl lo n env) ies μ).bind fun ds μ => .ok (d :: ds) μ) σ Q W := q
  refine ⟨F, ca, μ, env, hh, (Pk.bind q).imp fun v H1 ⟨F1, ca1, μ1, d, x, g, r, q1⟩ => ?_⟩
  have hh1 := hh.step x g
  refine ⟨F1, ca1, μ1, env, hh1, (Pk.bind q1).imp fun vs H2 ⟨F2, ca2, μ2, ds, y, g2, r2, q2⟩ => ?_⟩
  exact q2.now g2 (.cons (r.mono y.fle y.pre) r2)

/-! ### expressions -/
theorem pe_varD {i : Nat} {x : Str} {pos : Pos} (hN : X.N[i]? = some x) (hv : Vis X.env.scope x) (hd : (x == ("__debug__" : Str)) = false) (hcd : (x == ("__classdict__" : Str)) = false) : PE X (.Name x pos) (tD G cl lo n (.var i) W) := by
  refine PE.imp (pe_var hN hv hd hcd) fun σ H Q ⟨F, ca, μ, env, hh, q⟩ => ?_
  cases n with
  | zero => exact q.elim
  | succ n =>
    simp only [evE] at q
    split at q
    · rename_i d hd
      obtain ⟨v, h1, r⟩ := hh.e.get i d hd
      exact ⟨v, h1, q.now hh.g r⟩
    · exact q.elim
theorem pe_cstD {c : Const} {k : Nat} {pos : Pos} {d : D} (h : (∃ i, c = .int i ∧ d = .int i) ∨ (∃ b, c = .bool b ∧ d = .bl b) ∨ (c = .none ∧ d = .non) ∨ ∃ x, c = .str x ∧ d = .str x) : PE X (.Constant c k pos) (tD G cl lo n (.cst d) W) := by
  have go : ∀ v, (∀ F ca, Rp G F ca d v) → PE X (.Constant c k pos) (tC v) → PE X (.Constant c k pos) (tD G cl lo n (.cst d) W) := fun v r p => PE.imp p fun σ H Q ⟨F, ca, μ, env, hh, q⟩ => by
    cases n with
    | zero => exact q.elim
    | succ n => exact Pk.now (a := d) q hh.g (r F ca)
  rcases h with ⟨i, rfl, rfl⟩ | ⟨b, rfl, rfl⟩ | ⟨rfl, rfl⟩ | ⟨x, rfl, rfl⟩
  · exact go _ (fun _ _ => .int i) pe_int
  · exact go _ (fun _ _ => .bl b) pe_bl
  · exact go _ (fun _ _ => .non) pe_non
  · exact go _ (fun _ _ => .str x) pe_str
theorem pe_glbD {x : Str} {u : Value} {v : V} {d : D} {pos : Pos} (hg : Gl X x) (hm : X.mg x = some u) (r : RelV v u) (hr : ∀ F ca, Rp G F ca d v) (hd : (x == ("__debug__" : Str)) = false) : PE X (.Name x pos) (tD G cl lo n (.glb d) W) :=
  PE.imp (pe_glob hg hm r hd) fun σ H Q ⟨F, ca, μ, env, hh, q⟩ => by
    cases n with
    | zero => exact q.elim
    | succ n => exact Pk.now (a := d) q hh.g (hr F ca)
/-- a value's operation, by what it gives of the pure values -/
def Op2 (X : Cx) (G : Geo) (lo : Nat) (W : WX) (f : Value → Value → Sem Value) (g : D → D → Mu → Out D) : Prop :=
  ∀ (pins : List (Addr × Obj)) (s : Shared) (σ : L2.St) (H : Hp) (x y : V) (v u : Value) (Q : VK), Inv X pins σ H s → RelV x v → RelV y u → Bin G lo g σ Q W x y H →
    wpAny (model X.prog X.w) X.A (f v u) (EP X pins σ Q) X.xe s
theorem pe_binD {a b : Expr} {ia ib : IE} {op : Operator} {bop : BOp} {c : Bool} {pos : Pos} (ha : PE X a (tD G cl lo n ia W)) (hb : PE X b (tD G cl lo n ib W)) (ho : Op2 X G lo W (binaryOp op) (binD G.T cl lo c bop)) :
    PE X (.BinOp a op b pos) (tD G cl lo (n + 1) (.bin c bop ia ib) W) := by
  refine ⟨fun pins s σ H Q I ⟨F, ca, μ, env, hh, q⟩ => ?_⟩
  exact wpAny_BinOp (binT ha hb I (two_of hh q) fun v u s2 x y H2 I2 rx ry q2 => ho pins s2 σ H2 x y v u Q I2 rx ry q2)
theorem pe_cmpD {a b : Expr} {ia ib : IE} {op : CmpOp} {cop : COp} {pos : Pos} (ha : PE X a (tD G cl lo n ia W)) (hb : PE X b (tD G cl lo n ib W)) (ho : Op2 X G lo W (compareOp op) (cmpD G.T cl cop)) (hm : behindInMarks op b = false) :
    PE X (.Compare a [op] [b] pos) (tD G cl lo (n + 1) (.cmp cop ia ib) W) := by
  refine ⟨fun pins s σ H Q I ⟨F, ca, μ, env, hh, q⟩ => ?_⟩
  exact wpAny_Compare1 (binT ha hb I (two_of hh q) fun v u s2 x y H2 I2 rx ry q2 => ho pins s2 σ H2 x y v u Q I2 rx ry q2) hm
/-- what gives a truth value gives it where it stands -/
theorem tru_bl {F1 : Hp} {o : Out D} {Q : Bool → Hp → Prop} (h : Pk G lo Eqb F ca μ H (tru o) σ Q W) (hb : ∀ d m, o = .ok d m → ∃ b, d = .bl b) :
    Pk G lo (Rp G) F ca μ H o σ (fun x H' => ∃ k, x = .bl k ∧ Q k H') W := by
  cases o with
  | ok d m =>
    obtain ⟨b, rfl⟩ := hb d m rfl
    intro v F' ca' H' x g r
    cases r
    exact ⟨b, rfl, h b F' ca' H' x g rfl⟩
  | ex c fs m => exact h
  | stuck => exact h
theorem pt_cmpD {a b : Expr} {ia ib : IE} {op : CmpOp} {cop : COp} {pos : Pos} (ha : PE X a (tD G cl lo n ia W)) (hb : PE X b (tD G cl lo n ib W)) (ho : Op2 X G lo W (compareOp op) (cmpD G.T cl cop)) (hm : behindInMarks op b = false)
    (hbl : ∀ x y m d m', cmpD G.T cl cop x y m = .ok d m' → ∃ k, d = .bl k) :
    PT X (.Compare a [op] [b] pos) (tDt G cl lo (n + 1) (.cmp cop ia ib) W) := by
  refine ⟨fun pins s σ H Q I ⟨F, ca, μ, env, hh, q⟩ => ?_⟩
  have q2 : Pk G lo (Rp G) F ca μ H (evE G.T cl lo (n + 1) env (.cmp cop ia ib) μ) σ (fun x H' => ∃ k, x = .bl k ∧ Q k H') W := tru_bl (F1 := F) q fun d m e => by
    simp only [evE] at e
    cases e1 : evE G.T cl lo n env ia μ with
    | ok d1 m1 =>
      rw [e1, Out.bind_ok] at e
      cases e2 : evE G.T cl lo n env ib m1 with
      | ok d2 m2 => rw [e2, Out.bind_ok] at e; exact hbl _ _ _ _ _ e
      | ex c fs m2 => rw [e2] at e; cases e
      | stuck => rw [e2] at e; cases e
    | ex c fs m1 => rw [e1] at e; cases e
    | stuck => rw [e1] at e; cases e
  refine wpAny_isTrue_Compare1 (thn (ha.run pins s σ H _ I (two_of hh q2)) fun v s1 ⟨x, H1, I1, r1, q3⟩ => thn (hb.run pins s1 σ H1 _ I1 q3) fun u s2 ⟨y, H2, I2, r2, q4⟩ =>
    thn (ho pins s2 σ H2 x y v u _ I2 r1 r2 q4) fun c s3 ⟨z, H3, I3, r3, k, ez, q5⟩ => ?_) hm
  subst ez
  cases r3
  exact wpAny_truthy_bool ⟨H3, I3, q5⟩
/-- any expression as a test, by its truth -/
def truOk (G : Geo) (F : Hp) (ca : List Addr) (μ : Mu) (H : Hp) : Prop := True
theorem truV_of {d : D} {v : V} {k : Bool} (g : Gd G F ca μ H) (r : Rp G F ca d v) (h : truth μ d = some k) : TruV G.K v H k := by
  cases r with
  | non => cases h; rfl
  | bl b => cases h; rfl
  | int i => cases h; rfl
  | str x => cases h
  | tup hs rs =>
    rename_i xs a vs
    cases h
    refine .inr (.inl ⟨vs, sqT_le hs g.le, ?_⟩)
    have := rs.length
    cases xs <;> cases vs <;> simp_all
  | lst hs rs =>
    rename_i xs a vs
    cases h
    refine .inl ⟨vs, SqL.of (g.le _ _ hs), ?_⟩
    have := rs.length
    cases xs <;> cases vs <;> simp_all
  | arg hs rs => cases h
  | cell hk =>
    rename_i k' a
    simp only [truth] at h
    split at h
    · rename_i xs e
      cases h
      obtain ⟨vs, h1, rs⟩ := g.cel k' a _ hk e
      refine .inl ⟨vs, SqL.of h1, ?_⟩
      have := rs.length
      cases xs <;> cases vs <;> simp_all
    · cases h
  | ins _ _ _ _ => cases h
  | fn _ => cases h
  | cls _ => cases h
theorem pt_truD {a : Expr} {ia : IE} (hK : X.K = G.K) (ha : PE X a (tD G cl lo n ia W)) (he : ∀ whole, isTrue a X.env whole = (do let v ← whole; standAt a.pos; holding [v] (truthy v))) : PT X a (tDt G cl lo n ia W) := by
  refine PT.imp (pt_truth ha he) fun σ H Q ⟨F, ca, μ, env, hh, q⟩ => ⟨F, ca, μ, env, hh, ?_⟩
  have q : Pk G lo Eqb F ca μ H ((evE G.T cl lo n env ia μ).bind fun d μ => match truth μ d with
    | some b => .ok b μ
    | none => .stuck) σ Q W := q
  refine (Pk.bind (R := Rp G) q).imp fun v H1 ⟨F1, ca1, μ1, d, x, g, r, q1⟩ => ?_
  cases e : truth μ1 d with
  | none => rw [e] at q1; exact q1.elim
  | some k =>
    rw [e] at q1
    exact ⟨k, by rw [hK]; exact truV_of g r e, q1.now g rfl⟩
/-- and, or, not as values -/
theorem pe_andD {a b : Expr} {rest : List Expr} {ia ib : IE} {pos : Pos} (hK : X.K = G.K) (ha : PE X a (tD G cl lo n ia W)) (hb : PE X (.BoolOp .And (b :: rest) pos) (tD G cl lo n ib W)) :
    PE X (.BoolOp .And (a :: b :: rest) pos) (tD G cl lo (n + 1) (.and ia ib) W) := by
  refine PE.imp (pe_andT ha hb) fun σ H Q ⟨F, ca, μ, env, hh, q⟩ => ⟨F, ca, μ, env, hh, ?_⟩
  simp only [evE] at q
  refine (Pk.bind (R := Rp G) q).imp fun v H1 ⟨F1, ca1, μ1, d, x, g, r, q1⟩ => ?_
  cases e : truth μ1 d with
  | none => rw [e] at q1; exact q1.elim
  | some k =>
    rw [e] at q1
    refine ⟨k, by rw [hK]; exact truV_of g r e, ?_⟩
    cases k with
    | true => exact ⟨F1, ca1, μ1, env, hh.step x g, q1⟩
    | false => exact q1.now g r
theorem pe_orD {a b : Expr} {rest : List Expr} {ia ib : IE} {pos : Pos} (hK : X.K = G.K) (ha : PE X a (tD G cl lo n ia W)) (hb : PE X (.BoolOp .Or (b :: rest) pos) (tD G cl lo n ib W)) :
    PE X (.BoolOp .Or (a :: b :: rest) pos) (tD G cl lo (n + 1) (.or ia ib) W) := by
  refine PE.imp (pe_orT ha hb) fun σ H Q ⟨F, ca, μ, env, hh, q⟩ => ⟨F, ca, μ, env, hh, ?_⟩
  simp only [evE] at q
  refine (Pk.bind (R := Rp G) q).imp fun v H1 ⟨F1, ca1, μ1, d, x, g, r, q1⟩ => ?_
  cases e : truth μ1 d with
  | none => rw [e] at q1; exact q1.elim
  | some k =>
    rw [e] at q1
    refine ⟨k, by rw [hK]; exact truV_of g r e, ?_⟩
    cases k with
    | false => exact ⟨F1, ca1, μ1, env, hh.step x g, q1⟩
    | true => exact q1.now g r
theorem pe_notD {a : Expr} {ia : IE} {pos : Pos} (hK : X.K = G.K) (ha : PE X a (tD G cl lo n ia W)) : PE X (.UnaryOp .Not a pos) (tD G cl lo (n + 1) (.not ia) W) := by
  refine PE.imp (pe_notT ha) fun σ H Q ⟨F, ca, μ, env, hh, q⟩ => ⟨F, ca, μ, env, hh, ?_⟩
  simp only [evE] at q
  refine (Pk.bind (R := Rp G) q).imp fun v H1 ⟨F1, ca1, μ1, d, x, g, r, q1⟩ => ?_
  cases e : truth μ1 d with
  | none => rw [e] at q1; exact q1.elim
  | some k =>
    rw [e] at q1
    exact ⟨k, by rw [hK]; exact truV_of g r e, q1.now g (.bl _)⟩
/-- and, or, not as tests -/
theorem tru_bind {o : Out D} {f : D → Mu → Out D} : tru (o.bind f) = o.bind fun d μ => tru (f d μ) := by
  cases o <;> rfl
theorem tdt_first {a : IE} {f : D → Mu → Out D} {k : Bool → Mu → Out Bool} {Q : Bool → Hp → Prop} (hh : Here G lo F ca μ H env σ) (q : Pk G lo Eqb F ca μ H ((evE G.T cl lo n env a μ).bind fun d μ => tru (f d μ)) σ Q W)
    (hk : ∀ d μ, tru (f d μ) = match truth μ d with
      | some b => k b μ
      | none => .stuck) :
    tDt G cl lo n a W σ H fun b H1 => ∃ F1 ca1 μ1, Xt lo F ca μ H F1 ca1 μ1 H1 ∧ Gd G F1 ca1 μ1 H1 ∧ Pk G lo Eqb F1 ca1 μ1 H1 (k b μ1) σ Q W := by
  refine ⟨F, ca, μ, env, hh, ?_⟩
  have e : ((evE G.T cl lo n env a μ).bind fun d μ => tru (f d μ)) = (tru (evE G.T cl lo n env a μ)).bind k := by
    cases evE G.T cl lo n env a μ with
    | ok d m =>
      rw [Out.bind_ok, hk]
      show _ = ((match truth m d with
        | some b => Out.ok b m
        | none => .stuck) : Out Bool).bind k
      cases truth m d <;> rfl
    | ex c fs m => rfl
    | stuck => rfl
  rw [e] at q
  exact (Pk.bind (R := Eqb) q).imp fun b H1 ⟨F1, ca1, μ1, c, x, g, r, q1⟩ => by
    have r : c = b := r
    subst r
    exact ⟨F1, ca1, μ1, x, g, q1⟩
theorem pw_andD {a b : Expr} {rest : List Expr} {ia ib : IE} {pos : Pos} (ha : PT X a (tDt G cl lo n ia W)) (hb : PW X (.BoolOp .And (b :: rest) pos) (tDt G cl lo n ib W)) :
    PW X (.BoolOp .And (a :: b :: rest) pos) (tDt G cl lo (n + 1) (.and ia ib) W) := by
  refine ⟨fun wh pins s σ H Q I ⟨F, ca, μ, env, hh, q⟩ => (pw_and ha hb).run wh pins s σ H Q I ?_⟩
  simp only [evE, tru_bind] at q
  obtain ⟨F', ca', μ', env', hh', q'⟩ := tdt_first (k := fun b μ => if b then tru (evE G.T cl lo n env ib μ) else .ok false μ) hh q fun d m => by
    cases e : truth m d with
    | none => rfl
    | some b =>
      cases b with
      | true => simp
      | false => simp [tru, e]
  refine ⟨F', ca', μ', env', hh', q'.imp fun b H1 ⟨F1, ca1, μ1, x, g, q1⟩ => ?_⟩
  cases b with
  | true => exact ⟨F1, ca1, μ1, env, hh.step x g, q1⟩
  | false => exact q1.now g rfl
theorem pw_orD {a b : Expr} {rest : List Expr} {ia ib : IE} {pos : Pos} (ha : PT X a (tDt G cl lo n ia W)) (hb : PW X (.BoolOp .Or (b :: rest) pos) (tDt G cl lo n ib W)) :
    PW X (.BoolOp .Or (a :: b :: rest) pos) (tDt G cl lo (n + 1) (.or ia ib) W) := by
  refine ⟨fun wh pins s σ H Q I ⟨F, ca, μ, env, hh, q⟩ => (pw_or ha hb).run wh pins s σ H Q I ?_⟩
  simp only [evE, tru_bind] at q
  obtain ⟨F', ca', μ', env', hh', q'⟩ := tdt_first (k := fun b μ => if b then .ok true μ else tru (evE G.T cl lo n env ib μ)) hh q fun d m => by
    cases e : truth m d with
    | none => rfl
    | some b =>
      cases b with
      | true => simp [tru, e]
      | false => simp
  refine ⟨F', ca', μ', env', hh', q'.imp fun b H1 ⟨F1, ca1, μ1, x, g, q1⟩ => ?_⟩
  cases b with
  | false => exact ⟨F1, ca1, μ1, env, hh.step x g, q1⟩
  | true => exact q1.now g rfl
theorem pt_notD {a : Expr} {ia : IE} {pos : Pos} (ha : PT X a (tDt G cl lo n ia W)) : PT X (.UnaryOp .Not a pos) (tDt G cl lo (n + 1) (.not ia) W) := by
  refine PT.imp (pt_not ha) fun σ H Q ⟨F, ca, μ, env, hh, q⟩ => ?_
  simp only [evE, tru_bind] at q
  obtain ⟨F', ca', μ', env', hh', q'⟩ := tdt_first (k := fun b μ => .ok (!b) μ) hh q fun d m => by
    cases e : truth m d with
    | none => rfl
    | some b => rfl
  exact ⟨F', ca', μ', env', hh', q'.imp fun b H1 ⟨F1, ca1, μ1, x, g, q1⟩ => q1.now g rfl⟩
/-- a if t else b -/
theorem pe_iteD {t a b : Expr} {it ia ib : IE} {pos : Pos} (ht : PT X t (tDt G cl lo n it W)) (ha : PE X a (tD G cl lo n ia W)) (hb : PE X b (tD G cl lo n ib W)) : PE X (.IfExp t a b pos) (tD G cl lo (n + 1) (.ite it ia ib) W) := by
  refine PE.imp (pe_ifExp ht ha hb) fun σ H Q ⟨F, ca, μ, env, hh, q⟩ => ⟨F, ca, μ, env, hh, ?_⟩
  simp only [evE] at q
  refine (Pk.bind (R := Eqb) q).imp fun b H1 ⟨F1, ca1, μ1, c, x, g, r, q1⟩ => ?_
  have r : c = b := r
  subst r
  cases c with
  | true => exact ⟨F1, ca1, μ1, env, hh.step x g, q1⟩
  | false => exact ⟨F1, ca1, μ1, env, hh.step x g, q1⟩
/-- displays -/
theorem pe_tupD {es : List Expr} {ies : List IE} {k : Nat} {pos : Pos} (h : PA X es (tDs G cl lo n ies W)) : PE X (.Tuple es k pos) (tD G cl lo (n + 1) (.tup ies) W) := by
  refine PE.imp (pe_tup h) fun σ H Q ⟨F, ca, μ, env, hh, q⟩ => ⟨F, ca, μ, env, hh, ?_⟩
  simp only [evE] at q
  exact (Pk.bind (R := Rps G) q).imp fun vs H1 ⟨F1, ca1, μ1, ds, x, g, r, q1⟩ => newT_ok g r q1
theorem pe_lstD {es : List Expr} {ies : List IE} {c : Bool} {pos : Pos} (h : PA X es (tDs G cl lo n ies W)) : PE X (.List es pos) (tD G cl lo (n + 1) (.lst c ies) W) := by
  refine PE.imp (pe_lst h) fun σ H Q ⟨F, ca, μ, env, hh, q⟩ => ⟨F, ca, μ, env, hh, ?_⟩
  simp only [evE] at q
  exact (Pk.bind (R := Rps G) q).imp fun vs H1 ⟨F1, ca1, μ1, ds, x, g, r, q1⟩ => newL_ok g (hh.step x g).hl r q1
/-- a name's slot -/
def Ca (X : Cx) (G : Geo) (lo : Nat) (W : WX) (f : Value) (g : List D → Mu → Out D) : Prop :=
  ∀ (pins : List (Addr × Obj)) (s : Shared) (σ : L2.St) (H : Hp) (xs : List V) (us : List Value) (Q : VK), Inv X pins σ H s → Vals xs us → Lis G lo g σ Q W xs H →
    wpAny (model X.prog X.w) X.A (call f us) (EP X pins σ Q) X.xe s
/-- f(..), the module's name x holding u -/
theorem pe_callG {x : Str} {u : Value} {e : Expr} {es : List Expr} {ies : List IE} {g : List D → Mu → Out D} {p pos : Pos} {ie : IE} (hg : Gl X x) (hm : X.mg x = some u) (hk : PySem.W.keepIn X.K u = true) (hc : Ca X G lo W u g)
    (ha : PA X (e :: es) (tDs G cl lo n ies W)) (he : starEach (e :: es) X.env = (false, eval e X.env) :: starEach es X.env) (hpl : (backTo pos (starEach es X.env)).any (·.1) = false) (hdb : (x == ("__debug__" : Str)) = false)
    (hev : ∀ env μ, evE G.T cl lo (n + 1) env ie μ = (evL (evE G.T cl lo n env) ies μ).bind g) : PE X (.Call (.Name x p) (e :: es) [] pos) (tD G cl lo (n + 1) ie W) := by
  refine ⟨fun pins s σ H Q I ⟨F, ca, μ, env, hh, q⟩ => ?_⟩
  rw [hev] at q
  refine wpAny_Call_Name_kw (ld_glob I hg hm ?_ hdb)
  refine PySem.W.callWith_K (h₀ := X.base) I.ok.mod.kin hk (thn (ha.run pos pins s σ H _ I (lis_of hh q)) fun us s1 ⟨vs, H1, I1, r, q1⟩ => ⟨I1.kIn, ?_⟩) he hpl
  exact hc pins s1 σ H1 vs us Q I1 r q1
theorem pe_callG0 {x : Str} {u : Value} {g : List D → Mu → Out D} {p pos : Pos} {ie : IE} (hg : Gl X x) (hm : X.mg x = some u) (hk : PySem.W.keepIn X.K u = true) (hc : Ca X G lo W u g) (hdb : (x == ("__debug__" : Str)) = false)
    (hev : ∀ env μ, evE G.T cl lo (n + 1) env ie μ = g [] μ) : PE X (.Call (.Name x p) [] [] pos) (tD G cl lo (n + 1) ie W) := by
  refine ⟨fun pins s σ H Q I ⟨F, ca, μ, env, hh, q⟩ => ?_⟩
  rw [hev] at q
  refine wpAny_Call_Name_kw (ld_glob I hg hm ?_ hdb)
  exact PySem.W.callWith_K0 I.kIn hk (hc pins s σ H [] [] Q I .nil ⟨F, ca, μ, [], hh.hl, hh.g, .nil, q⟩)
end
end Sd

set_option Elab.async false
set_option linter.all false
set_option maxRecDepth 100000
set_option maxHeartbeats 4000000
/-! Sd3: calls of the text's defs and classes. -/
namespace Sd
open PySem PySem.Spec PyProof.Rows L2 Pi

section
variable {G : Geo} {lo : Nat} {F F' H H' : Hp} {ca ca' : List Addr} {μ μ' : Mu} {σ : L2.St} {W : WX}
theorem pre_get {k : Nat} {a : Addr} (p : Pre ca ca') (hk : k < ca.length) (e : ca'[k]? = some a) : ca[k]? = some a := by
  have h1 : ca[k]? = some (ca[k]'hk) := List.getElem?_eq_getElem hk
  have h2 := p k _ h1
  rw [h1, ← h2, e]
/-- a value without later cells -/
theorem okD_rp (p : Pre ca ca') : ∀ (m : Nat) (d : D) (v : V), Rp G F ca' d v → okD ca.length m d = true → Rp G F ca d v
  | 0, d, v, _, h => by simp [okD] at h
  | m + 1, d, v, r, h => by
    have all : ∀ {xs : List D} {vs : List V}, Rps G F ca' xs vs → xs.all (okD ca.length m) = true → Rps G F ca xs vs := fun {xs vs} r h => by
      induction xs generalizing vs with
      | nil => cases r; exact .nil
      | cons x xs ih =>
        cases r with
        | cons r1 r2 =>
          rw [List.all_cons, Bool.and_eq_true] at h
          exact .cons (okD_rp p m _ _ r1 h.1) (ih r2 h.2)
    cases r with
    | non => exact .non
    | bl b => exact .bl b
    | int i => exact .int i
    | str x => exact .str x
    | tup hs rs => exact .tup hs (all rs (by simpa [okD] using h))
    | lst hs rs => exact .lst hs (all rs (by simpa [okD] using h))
    | arg hs rs => exact .arg hs (all rs (by simpa [okD] using h))
    | cell hk => exact .cell (pre_get p (by simpa [okD] using h) hk)
    | ins hc hl hf rs => exact .ins hc hl hf (all rs (by simpa [okD] using h))
    | fn i => exact .fn i
    | cls c => exact .cls c
theorem okD_rps (p : Pre ca ca') {m : Nat} : ∀ {xs : List D} {vs : List V}, Rps G F ca' xs vs → xs.all (okD ca.length m) = true → Rps G F ca xs vs
  | _, _, .nil, _ => .nil
  | _, _, .cons r1 r2, h => by
    rw [List.all_cons, Bool.and_eq_true] at h
    exact .cons (okD_rp p m _ _ r1 h.1) (okD_rps p r2 h.2)

/-- the cells from ca on are frozen -/
def frost (F H : Hp) (ca ca' : List Addr) : Hp := fun a => if a ∈ ca' ∧ a ∉ ca then H a else F a
theorem frost_le (g : Gd G F' ca' μ' H') : Le F' (frost F' H' ca ca') := fun a o e => by
  unfold frost
  split
  · exact g.le _ _ e
  · exact e
theorem frost_at {a : Addr} (h1 : a ∈ ca') (h2 : a ∉ ca) : frost F H ca ca' a = H a := by
  unfold frost
  rw [if_pos ⟨h1, h2⟩]
theorem new_not {k : Nat} {a : Addr} (p : Pre ca ca') (nd : ca'.Nodup) (hk : ca.length ≤ k) (e : ca'[k]? = some a) : a ∉ ca := fun m => by
  obtain ⟨j, ej⟩ := List.getElem?_of_mem m
  have := nodup_ix' nd (p j a ej) e
  have := (List.getElem?_eq_some_iff.mp ej).1
  omega
theorem mapM_some {f : D → Option D} : ∀ {xs ys : List D}, xs.mapM f = some ys → Paired (fun x y => f x = some y) xs ys
  | [], ys, h => by
    rw [List.mapM_nil] at h
    cases h
    exact .nil
  | x :: xs, ys, h => by
    rw [List.mapM_cons] at h
    cases e : f x with
    | none => rw [e] at h; cases h
    | some y =>
      cases e2 : xs.mapM f with
      | none => rw [e, e2] at h; cases h
      | some zs =>
        rw [e, e2] at h
        cases h
        exact .cons e (mapM_some e2)
/-- what is handed out of a def, its own cells frozen -/
theorem fz_rp (g : Gd G F' ca' μ' H') (p : Pre ca ca') : ∀ (m : Nat) (d d' : D) (v : V), Rp G F' ca' d v → fz μ' ca.length m d = some d' → Rp G (frost F' H' ca ca') ca d' v
  | 0, d, d', v, _, h => by simp [fz] at h
  | m + 1, d, d', v, r, h => by
    have all : ∀ {xs ys : List D} {vs : List V}, Rps G F' ca' xs vs → xs.mapM (fz μ' ca.length m) = some ys → Rps G (frost F' H' ca ca') ca ys vs := fun {xs ys vs} r h => by
      have q := mapM_some h
      clear h
      induction q generalizing vs with
      | nil => cases r; exact .nil
      | cons h1 _ ih =>
        cases r with
        | cons r1 r2 => exact .cons (fz_rp g p m _ _ _ r1 h1) (ih r2)
    have le := frost_le (ca := ca) g
    cases r with
    | non => simp [fz] at h; subst h; exact .non
    | bl b => simp [fz] at h; subst h; exact .bl b
    | int i => simp [fz] at h; subst h; exact .int i
    | str x => simp [fz] at h; subst h; exact .str x
    | tup hs rs =>
      rename_i xs a vs
      simp only [fz, Option.map_eq_some_iff] at h
      obtain ⟨ys, h, rfl⟩ := h
      exact .tup (sqT_le hs le) (all rs h)
    | lst hs rs =>
      simp only [fz, Option.map_eq_some_iff] at h
      obtain ⟨ys, h, rfl⟩ := h
      exact .lst (le _ _ hs) (all rs h)
    | arg hs rs =>
      simp only [fz, Option.map_eq_some_iff] at h
      obtain ⟨ys, h, rfl⟩ := h
      exact .arg (sqL_le hs le) (all rs h)
    | cell hk =>
      rename_i k a
      simp only [fz] at h
      split at h
      · rename_i hlt
        cases h
        exact .cell (pre_get p hlt hk)
      · rename_i hge
        split at h
        · rename_i xs e
          simp only [Option.map_eq_some_iff] at h
          obtain ⟨ys, h, rfl⟩ := h
          obtain ⟨vs, h1, rs⟩ := g.cel k a _ hk e
          exact .lst (by rw [frost_at (List.mem_of_getElem? hk) (new_not p g.nd (by omega) hk)]; exact h1) (all rs h)
        · cases h
    | ins hc hl hf rs =>
      simp only [fz, Option.map_eq_some_iff] at h
      obtain ⟨ys, h, rfl⟩ := h
      exact .ins hc hl (le _ _ hf) (all rs h)
    | fn i => simp [fz] at h; subst h; exact .fn i
    | cls c => simp [fz] at h; subst h; exact .cls c
/-- out of a def: the cells from ca on are frozen, the others were kept -/
theorem Xt.shrink (g : Gd G F ca μ H) (x : Xt lo F ca μ H F' ca' μ' H') (g' : Gd G F' ca' μ' H') {μ2 : Mu} (hm : ∀ k, k < lo → μ2[k]? = μ[k]?) (hl : μ2.length = μ.length) : Xt lo F ca μ H (frost F' H' ca ca') ca μ2 H' where
  fle := x.fle.trans (frost_le g')
  pre := Pre.rfl'
  ff := fun a o e => by
    unfold frost at e
    split at e
    · rename_i h
      rcases x.cf a h.1 with z | z
      · exact absurd z h.2
      · exact .inr z
    · exact x.ff a o e
  cf := fun a m => .inl m
  fr := x.fr
  nn := x.nn
  mu := hm
  hm := x.hm
  ml := by omega
theorem Gd.shrinkP (g : Gd G F ca μ H) (x : Xt μ.length F ca μ H F' ca' μ' H') (g' : Gd G F' ca' μ' H') : Gd G (frost F' H' ca ca') ca μ H' where
  le := fun a o e => by
    unfold frost at e
    split at e
    · exact e
    · exact g'.le _ _ e
  len := g.len
  nd := g.nd
  out := fun a m => by
    unfold frost
    rw [if_neg (fun z => z.2 m)]
    exact g'.out a (x.pre.mem m)
  cel := fun k a c e1 e2 => (g.cel k a c e1 e2).mono (x.fle.trans (frost_le g')) Pre.rfl' (x.hm k a (by rw [← g.len]; exact (List.getElem?_eq_some_iff.mp e1).1) e1)
theorem CelAt.keep {a : Addr} {c : Cel} (p : Pre ca ca') (h : CelAt G F ca' H a c) (o : okC ca.length c = true) : CelAt G F ca H a c := by
  cases c with
  | lst xs => obtain ⟨vs, h1, r⟩ := h; exact ⟨vs, h1, okD_rps p r o⟩
  | obj c fs =>
    obtain ⟨dx, vs, h1, n, r⟩ := h
    refine ⟨dx, vs, h1, n, okD_rps (m := fzN) p r ?_⟩
    rw [List.all_map]
    exact o
theorem Gd.shrinkD (g : Gd G F ca μ H) (x : Xt lo F ca μ H F' ca' μ' H') (g' : Gd G F' ca' μ' H') (o : (μ'.take μ.length).all (okC μ.length) = true) : Gd G (frost F' H' ca ca') ca (μ'.take μ.length) H' where
  le := fun a o e => by
    unfold frost at e
    split at e
    · exact e
    · exact g'.le _ _ e
  len := by
    rw [List.length_take, g.len]
    have := x.ml
    omega
  nd := g.nd
  out := fun a m => by
    unfold frost
    rw [if_neg (fun z => z.2 m)]
    exact g'.out a (x.pre.mem m)
  cel := fun k a c e1 e2 => by
    have hk : k < μ.length := by rw [← g.len]; exact (List.getElem?_eq_some_iff.mp e1).1
    have hc : okC ca.length c = true := by
      rw [g.len]
      exact List.all_eq_true.mp o c (List.mem_of_getElem? e2)
    rw [List.getElem?_take_of_lt hk] at e2
    exact (CelAt.keep x.pre (g'.cel k a c (x.pre k a e1) e2) hc).mono (frost_le g') Pre.rfl' rfl
end

/-! ### the promise of a def -/
def spD (G : Geo) (cl : Cll) (f n : Nat) : Sp := fun vs H Q E => vs.length = n ∧ ∃ lo F ca μ ds, lo ≤ μ.length ∧ Gd G F ca μ H ∧ Rps G F ca ds vs ∧ Pk G lo (Rp G) F ca μ H (cl lo f ds μ) [] Q (fun cls d _ H' => E cls d H')
structure Fns (X : Cx) (G : Geo) (cl : Cll) (k : Nat) : Prop where
  len : ∀ lo f ds μ Fn, G.T.fns[f]? = some Fn → ds.length ≠ Fn.npar → cl lo f ds μ = .stuck
  ok : ∀ f Fn, G.T.fns[f]? = some Fn → ∃ fd ps, FnOk X.prog X.w X.K X.mg X.base (L2.CX X.prog X.w) k (G.fad f) fd ps (spD G cl f Fn.npar) ∧ PySem.W.keepIn X.K (.ref (G.fad f)) = true ∧ ps.length = Fn.npar ∧
    ∀ n, n ≤ Fn.npar → Fn.npar - n ≤ Fn.dfl.length → ∃ dvs ds, Vals dvs ds ∧ (∀ F ca, Rps G F ca (Fn.dfl.drop (Fn.dfl.length - (Fn.npar - n))) dvs) ∧ Binds X.K fd ps ds
theorem Pk.sig {α β : Type} {G : Geo} {lo : Nat} {R : Hp → List Addr → α → β → Prop} {F H : Hp} {ca : List Addr} {μ : Mu} {o : Out α} {σ : L2.St} {Q : β → Hp → Prop} {W : WX} (h : Pk G lo R F ca μ H o σ Q W) : Pk G lo R F ca μ H o [] Q (fun cls d _ H' => W cls d σ H') := by
  cases o with
  | ok a m => exact h
  | ex c fs m => exact h
  | stuck => exact h
section
variable {X : Cx} {G : Geo} {cl : Cll} {k lo : Nat} {W : WX}
theorem fn_runA (hF : Fns X G cl k) {A : Around} (hr : Room k A) (hfr : A.frames = X.A.frames) (f : Nat) {pins : List (Addr × Obj)} {s : Shared} {σ : L2.St} {H : Hp} {vs : List V} {us : List Value} {Q : VK} (hx : PassesAt (L2.CX X.prog X.w) X σ (WE W σ)) (I : Inv X pins σ H s) (r : Vals vs us)
    (q : Lis G lo (callF G.T cl lo f) σ Q W vs H) : wpAny (model X.prog X.w) A (call (.ref (G.fad f)) us) (EP X pins σ Q) X.xe s := by
  obtain ⟨F, ca, μ, ds, hl, g, rs, q⟩ := q
  unfold callF at q
  split at q
  · rename_i Fn hf
    by_cases hn : (fillD Fn ds).length = Fn.npar
    · obtain ⟨fd, ps, FO, hk, hp, hb⟩ := hF.ok f Fn hf
      have h1 : ds.length ≤ Fn.npar := by
        unfold fillD at hn
        rw [List.length_append] at hn
        omega
      have h2 : Fn.npar - ds.length ≤ Fn.dfl.length := by
        unfold fillD at hn
        rw [List.length_append, List.length_drop] at hn
        omega
      obtain ⟨dvs, dus, rd, rr, B⟩ := hb ds.length h1 h2
      have r2 : Vals (vs ++ dvs) (us ++ dus) := r.append rd
      have rs2 : Rps G F ca (fillD Fn ds) (vs ++ dvs) := rs.append (rr F ca)
      have hlen : (vs ++ dvs).length = Fn.npar := by rw [← rs2.length]; exact hn
      have hlu : (us ++ dus).length = ps.length := by rw [← r2.length, hlen, hp]
      have e0 : Env0 X.prog X.w X.K X.mg X.base A X.stack s H := by
        have e := I.env0
        exact ⟨by rw [hfr]; exact e.frames, e.mod, e.bs, e.bsz, e.funs, e.frf, e.hok, e.bare⟩
      refine wpAny_call (codeAny_mono (FO.run A X.stack s H ⟨us, []⟩ (us ++ dus) (vs ++ dvs) Q (WE W σ) hr e0 (B s us I.kIn hlu) r2 ⟨hlen, lo, F, ca, μ, fillD Fn ds, hl, g, rs2, q.sig⟩) fun r s' hq => ?_)
      cases r with
      | error e => exact hx pins H s e s' I hq
      | ok fl =>
        cases fl with
        | ret u => exact I.after hq
        | next => exact hq.elim
        | brk => exact hq.elim
        | cont => exact hq.elim
    · rw [hF.len lo f _ μ Fn hf hn] at q
      exact q.elim
  · exact q.elim
theorem fn_run (hF : Fns X G cl k) (hr : Room k X.A) (hx : ∀ σ, PassesAt (L2.CX X.prog X.w) X σ (WE W σ)) (f : Nat) : Ca X G lo W (.ref (G.fad f)) (callF G.T cl lo f) :=
  fun pins s σ H vs us Q I r q => fn_runA hF hr rfl f (hx σ) I r q
theorem CX_imp {P : Program} {w : World} {outer : List PySem.Env} {H : Hp} {s s' : Shared} {E E' : XK} {u : Value} (h : ∀ c d H', E c d H' → E' c d H') (x : L2.CX P w outer H s E u s') : L2.CX P w outer H s E' u s' := by
  obtain ⟨a, B, H', cls, d, h1, h2, h3, h4, h5, h6, h7, h8⟩ := x
  exact ⟨a, B, H', cls, d, h1, h2, h3, h4, h5, h6, h7, h _ _ _ h8⟩
/-- what is asked of a class -/
structure KlOk (X : Cx) (G : Geo) (c : Nat) (C : Kl) : Prop where
  cl : Cls X.K (G.cad c)
  fld : ∀ f ∈ C.flds, NoAttr X.K (G.cad c) (G.nm f)
  nd : (C.flds.map G.nm).Nodup
  nofld : ∀ m f, lookN m C.meths = some f → G.nm m ∉ C.flds.map G.nm
  meth : ∀ m f, lookN m C.meths = some f → Meth X.K (G.cad c) (G.nm m) (G.fad f)
  sf : PySem.W.selfFirst X.K (G.cad c) = true
  ob : PySem.W.mroIn X.K (G.cad c) (.type "object") = some true
  ne : PySem.W.findIn X.K (.ref (G.cad c)) "__ne__" = some (some (.builtin "object.__ne__"))
  mkr : Mk X.K (G.cad c) (G.fad C.init)
theorem lookup_nin {x : Str} : ∀ {ns : List Str} {vs : List V}, x ∉ ns → (ns.zip vs).lookup x = none
  | [], _, _ => by simp
  | _ :: _, [], _ => by simp
  | n :: ns, v :: vs, h => by
    rw [List.mem_cons, not_or] at h
    rw [List.zip_cons_cons, List.lookup_cons]
    have : (x == n) = false := by simpa using h.1
    rw [this]
    exact lookup_nin h.2
/-- C(..) -/
theorem make_run (hK : X.K = G.K) (hF : Fns X G cl k) (hr : Room (k + 1) X.A) (hx : ∀ σ, PassesAt (L2.CX X.prog X.w) X σ (WE W σ)) {c : Nat} {C : Kl} (hc : G.T.cls[c]? = some C) (M : Mk X.K (G.cad c) (G.fad C.init)) :
    Ca X G lo W (.ref (G.cad c)) (makeI G.T cl c) := by
  intro pins s σ H vs us Q I r ⟨F, ca, μ, ds, hl, g, rs, q⟩
  unfold makeI at q
  rw [hc] at q
  dsimp only at q
  split at q
  · exact q.elim
  have hx0 : H (s.heap.objs.size + 1) = none := I.hok.fresh (Nat.le_succ _)
  have hd0 : H s.heap.objs.size = none := I.hok.fresh (Nat.le_refl _)
  have hne : s.heap.objs.size ≠ s.heap.objs.size + 1 := Nat.ne_of_lt (Nat.lt_succ_self _)
  have I2 := Inv.made (C := G.cad c) I
  have g1 : Gd G F ca μ (upd H s.heap.objs.size (.own (s.heap.objs.size + 1))) := g.other hd0 _
  have hx1 : (upd H s.heap.objs.size (.own (s.heap.objs.size + 1))) (s.heap.objs.size + 1) = none := by rw [upd_ne (Ne.symm hne)]; exact hx0
  have g2 : Gd G F (ca ++ [s.heap.objs.size + 1]) (μ ++ [.obj c []]) (upd (upd H s.heap.objs.size (.own (s.heap.objs.size + 1))) (s.heap.objs.size + 1) (.ins (G.cad c) s.heap.objs.size [])) :=
    g1.celled hx1 fun H' e => ⟨s.heap.objs.size, [], e, rfl, .nil⟩
  have x1 : Xt μ.length F ca μ H F (ca ++ [s.heap.objs.size + 1]) (μ ++ [.obj c []]) (upd (upd H s.heap.objs.size (.own (s.heap.objs.size + 1))) (s.heap.objs.size + 1) (.ins (G.cad c) s.heap.objs.size [])) :=
    (Xt.other g hd0 _).trans (Xt.celled g1 hx1 (Nat.le_refl _) _ _)
  have hcx : (ca ++ [s.heap.objs.size + 1])[μ.length]? = some (s.heap.objs.size + 1) := by rw [← g.len]; simp
  have hml : μ.length ≤ (μ ++ [Cel.obj c []]).length := by simp
  -- what __init__ may give
  have main : ∀ (QI : VK) (EI : XK), Pk G μ.length (Rp G) F (ca ++ [s.heap.objs.size + 1]) (μ ++ [.obj c []]) (upd (upd H s.heap.objs.size (.own (s.heap.objs.size + 1))) (s.heap.objs.size + 1) (.ins (G.cad c) s.heap.objs.size []))
        (callF G.T cl μ.length C.init (.cell μ.length :: ds) (μ ++ [.obj c []])) [] QI (fun cls d _ H' => EI cls d H') → (∀ v H', QI v H' → v = .non ∧ Q (.ref (s.heap.objs.size + 1)) H') → (∀ cls d H', EI cls d H' → W cls d σ H') →
      wpAny (model X.prog X.w) X.A (call (.ref (G.cad c)) us) (EP X pins σ Q) X.xe s := by
    intro QI EI hp hQ hE
    unfold callF at hp
    split at hp
    · rename_i Fn hf
      by_cases hn : (fillD Fn (.cell μ.length :: ds)).length = Fn.npar
      · obtain ⟨fd, ps, FO, hk, hps, hb⟩ := hF.ok _ Fn hf
        have h1 : (D.cell μ.length :: ds).length ≤ Fn.npar := by
          unfold fillD at hn
          rw [List.length_append] at hn
          omega
        have h2 : Fn.npar - (D.cell μ.length :: ds).length ≤ Fn.dfl.length := by
          unfold fillD at hn
          rw [List.length_append, List.length_drop] at hn
          omega
        obtain ⟨dvs, dus, rd, rr, B⟩ := hb _ h1 h2
        have r2 : Vals (V.ref (s.heap.objs.size + 1) :: (vs ++ dvs)) (Value.ref (s.heap.objs.size + 1) :: (us ++ dus)) := Paired.cons rfl (r.append rd)
        have rs2 : Rps G F (ca ++ [s.heap.objs.size + 1]) (fillD Fn (.cell μ.length :: ds)) (V.ref (s.heap.objs.size + 1) :: (vs ++ dvs)) :=
          Rps.append (vs := V.ref (s.heap.objs.size + 1) :: vs) (Rps.cons (.cell hcx) (rs.mono Le.rfl' Pre.app)) (rr F _)
        have hlen : (V.ref (s.heap.objs.size + 1) :: (vs ++ dvs)).length = Fn.npar := by rw [← rs2.length]; exact hn
        have hlu : (Value.ref (s.heap.objs.size + 1) :: us ++ dus).length = ps.length := by
          have := r2.length
          rw [hlen, ← hps] at this
          exact this.symm
        refine wpAny_call (make_map (f := G.fad C.init) I.kIn M.makes M.init (beq_iff_eq.mp M.fn) (codeAny_mono (FO.run _ X.stack _ _ ⟨Value.ref (s.heap.objs.size + 1) :: us, []⟩ (Value.ref (s.heap.objs.size + 1) :: (us ++ dus)) _ QI EI (hr.make (G.cad c) us [])
          (I2.env0.make (G.cad c) us []) (B _ (Value.ref (s.heap.objs.size + 1) :: us) I2.kIn hlu) r2 ⟨hlen, μ.length, F, _, _, _, hml, g2, rs2, hp⟩) fun res s' hq => ?_))
        cases res with
        | error e => exact hx σ pins _ _ e s' I2 (CX_imp hE hq)
        | ok fl =>
          cases fl with
          | ret u =>
            obtain ⟨v, H', I3, rv, q3⟩ := I2.after hq
            obtain ⟨ev, q4⟩ := hQ v H' q3
            subst ev
            exact ⟨rv, ⟨V.ref (s.heap.objs.size + 1), H', I3, rfl, q4⟩⟩
          | next => exact hq.elim
          | brk => exact hq.elim
          | cont => exact hq.elim
      · rw [hF.len _ _ _ _ Fn hf hn] at hp
        exact hp.elim
    · exact hp.elim
  split at q
  · rename_i μ' hq
    split at q
    · rename_i c' fs e'
      split at q
      · rename_i hcond
        obtain ⟨rfl, hfl, hok⟩ := hcond
        rw [hq] at main
        refine main (fun v H' => v = .non ∧ Q (.ref (s.heap.objs.size + 1)) H') (fun cls d H' => W cls d σ H') (fun v F' ca' H' y g3 r3 => ?_) (fun _ _ h => h) fun _ _ _ h => h
        cases r3
        refine ⟨rfl, ?_⟩
        have hcx' := y.pre _ _ hcx
        obtain ⟨dx', ws, h1, hlw, rw'⟩ := g3.cel _ _ _ hcx' e'
        have xx : Xt μ.length F ca μ H F' ca' μ' H' := (x1.lower (Nat.le_refl _)).trans y
        have xs : Xt μ.length F ca μ H (frost F' H' ca ca') ca μ H' := Xt.shrink g xx g3 (fun _ _ => rfl) rfl
        have hnm : s.heap.objs.size + 1 ∉ ca := g.not_mem hx0
        refine q (.ref (s.heap.objs.size + 1)) (frost F' H' ca ca') ca H' (xs.lower hl) (Gd.shrinkP g xx g3) (Rp.ins (dx := dx') (vs := ws) hc ?_ ?_ ((okD_rps (m := fzN) xx.pre rw' ?_).mono (frost_le g3) Pre.rfl'))
        · rw [hlw, ← hfl]; simp
        · rw [frost_at (List.mem_of_getElem? hcx') hnm, h1, ← hfl, List.map_map]
          rfl
        · rw [List.all_map, g.len]
          exact hok
      · exact q.elim
    · exact q.elim
  · rename_i xc fs μ' hq
    rw [hq] at main
    split at q
    · rename_i hok
      refine main (fun _ _ => False) (fun cls d H' => W cls d σ H') (fun d F' ca' H' y g3 ex => ?_) (fun _ _ h => h.elim) fun _ _ _ h => h
      have xx : Xt μ.length F ca μ H F' ca' μ' H' := (x1.lower (Nat.le_refl _)).trans y
      have xs : Xt μ.length F ca μ H (frost F' H' ca ca') ca μ H' := Xt.shrink g xx g3 (fun _ _ => rfl) rfl
      refine q d (frost F' H' ca ca') ca H' (xs.lower hl) (Gd.shrinkP g xx g3) ?_
      rcases ex with h | ⟨C', dd, ws, h1, h2, h3, h4, h5⟩
      · exact .inl h
      · exact .inr ⟨C', dd, ws, h1, h2, h3, h4, (okD_rps (m := fzN) xx.pre h5 (by rw [g.len]; exact hok)).mono (frost_le g3) Pre.rfl'⟩
    · exact q.elim
  · exact q.elim
end
end Sd

set_option Elab.async false
set_option linter.all false
set_option maxRecDepth 100000
set_option maxHeartbeats 4000000
/-! Sd4: methods, attributes, subscripts. -/
namespace Sd
open PySem PySem.Spec PyProof.Rows L2 Pi

def Kls (X : Cx) (G : Geo) : Prop := ∀ c C, G.T.cls[c]? = some C → C.exc = false → KlOk X G c C
section
variable {G : Geo} {cl : Cll} {lo n k : Nat} {F H : Hp} {ca : List Addr} {μ : Mu} {σ : L2.St} {W : WX} {Q : VK} {X : Cx}
/-- an instance that is read -/
structure InsAt (G : Geo) (H : Hp) (a : Addr) (c : Nat) (C : Kl) : Prop where
  hc : G.T.cls[c]? = some C
  ex : C.exc = false
  at_ : ∃ (dx : Addr) (ns : List Str) (vs : List V), H a = some (.ins (G.cad c) dx (ns.zip vs)) ∧ ∀ x ∈ ns, x ∈ C.flds.map G.nm
theorem recv_ins {d : D} {v : V} {m f : Nat} (g : Gd G F ca μ H) (r : Rp G F ca d v) (h : recvM G.T m d μ = some f) : ∃ a c C, v = .ref a ∧ InsAt G H a c C ∧ lookN m C.meths = some f := by
  cases r with
  | ins hc hl hf rs =>
    rename_i c fs C a dx vs
    simp only [recvM, hc] at h
    split at h
    · cases h
    · rename_i hx
      exact ⟨a, c, C, rfl, ⟨hc, by simpa using hx, dx, _, vs, g.le _ _ hf, fun x hx => hx⟩, h⟩
  | cell hk =>
    rename_i k a
    simp only [recvM] at h
    cases e : μ[k]? with
    | none => rw [e] at h; cases h
    | some u =>
      rw [e] at h
      cases u with
      | lst xs => cases h
      | obj c fs =>
        dsimp only at h
        cases hc : G.T.cls[c]? with
        | none => rw [hc] at h; cases h
        | some C =>
          rw [hc] at h
          dsimp only at h
          split at h
          · cases h
          · rename_i hx
            simp only [Bool.or_eq_true, Bool.not_eq_true', not_or, Bool.not_eq_true, Bool.not_eq_false] at hx
            obtain ⟨dx, vs, h1, h2, h3⟩ := g.cel k a _ hk e
            refine ⟨a, c, C, rfl, ⟨hc, hx.1, dx, _, vs, h1, fun x hm => ?_⟩, h⟩
            obtain ⟨q, hq, rfl⟩ := List.mem_map.mp hm
            have := List.all_eq_true.mp hx.2 q hq
            exact List.mem_map.mpr ⟨q.1, by simpa using this, rfl⟩
  | _ => simp [recvM] at h
theorem InsAt.look {a : Addr} {c : Nat} {C : Kl} {m f : Nat} (i : InsAt G H a c C) (ok : KlOk X G c C) (h : lookN m C.meths = some f) : ∃ dx fs, H a = some (.ins (G.cad c) dx fs) ∧ fs.lookup (G.nm m) = none := by
  obtain ⟨dx, ns, vs, e, hs⟩ := i.at_
  exact ⟨dx, _, e, lookup_nin fun hm => ok.nofld m f h (hs _ hm)⟩
/-- no call of super() -/
def plainO : Expr → Bool
  | .Call (.Name x _) [] [] _ => x != ("super" : Str)
  | _ => true
theorem plain_base {o : Expr} {f : Str} {env : PySem.Env} (h : plainO o = true) : attributeBase o f env (eval o env) = eval o env := by
  unfold plainO at h
  split at h
  · exact abase_call h
  · rename_i hn
    unfold attributeBase
    split
    · exact absurd rfl (hn _ _ _)
    · rfl
theorem few_of {args : List Expr} {env : PySem.Env} {pos : Pos} (h : (backTo pos (starEach args env)).any (·.1) = false) (hl : args.length < 29) : methodCallForm (args.length + ([] : List Keyword).length) (backTo pos (starEach args env)) (backToKw pos (keywordEach [] env)) = true := by
  unfold methodCallForm
  have h1 : (backTo pos (starEach args env)).all (fun x => !x.1) = true := by
    rw [List.all_eq_true]
    intro x hx
    rw [List.any_eq_false] at h
    have := h x hx
    simpa using this
  have h2 : (backToKw pos (keywordEach [] env)) = [] := rfl
  rw [h2]
  simp only [List.length_nil, Nat.add_zero, List.all_nil, List.isEmpty_nil, if_true, Bool.and_true, Bool.and_eq_true]
  exact ⟨h1, by simpa using (by omega : args.length < 30)⟩
theorem meth_tree {o : Expr} {m : Str} {apos pos : Pos} {args : List Expr} {env : PySem.Env} (hb : plainO o = true) (hl : (apos.endLine == pos.line) = true) (hp : (backTo pos (starEach args env)).any (·.1) = false) (hn : args.length < 29) :
    eval (.Call (.Attribute o m apos) args [] pos) env = (do
      let ov ← eval o env
      standAt apos.atName
      let (f, first) ← holding [ov] (getMethod ov m (plainOf o env))
      callWith pos f first (backTo pos (starEach args env)) (backToKw pos (keywordEach [] env))) :=
  mcall_of (plain_base hb) fun ov => mcall_line (few_of hp hn) hl
/-- o.m(..) of an instance -/
theorem pe_methD {o : Expr} {es : List Expr} {io : IE} {ies : List IE} {m : Nat} {apos pos : Pos} (hK : X.K = G.K) (hF : Fns X G cl k) (hr : Room k X.A) (hx : ∀ σ, PassesAt (L2.CX X.prog X.w) X σ (WE W σ)) (hk : Kls X G)
    (ho : PE X o (tD G cl lo n io W)) (ha : PA X es (tDs G cl lo n ies W)) (hb : plainO o = true) (hl : (apos.endLine == pos.line) = true) (hn : es.length < 29)
    (hs : (es = [] ∧ ies = []) ∨ ∃ e r, es = e :: r ∧ starEach (e :: r) X.env = (false, eval e X.env) :: starEach r X.env ∧ (backTo pos (starEach r X.env)).any (·.1) = false) :
    PE X (.Call (.Attribute o (G.nm m) apos) es [] pos) (tD G cl lo (n + 1) (.meth m io ies) W) := by
  refine ⟨fun pins s σ H Q I ⟨F, ca, μ, env, hh, q⟩ => ?_⟩
  have hp : (backTo pos (starEach es X.env)).any (·.1) = false := by
    rcases hs with ⟨rfl, _⟩ | ⟨e, r, rfl, h1, h2⟩
    · rfl
    · rw [h1]
      show (false || (backTo pos (starEach r X.env)).any (·.1)) = false
      rw [h2]; rfl
  simp only [evE] at q
  refine PySem.W.methodCall_KW (pl := plainOf o X.env) (thn (ho.run pins s σ H _ I ⟨F, ca, μ, env, hh, Pk.bind (R := Rp G) q⟩) fun u s1 ⟨x, H1, I1, rx, F1, ca1, μ1, d, y, g, r, q1⟩ => ?_) (meth_tree hb hl hp hn)
  split at q1
  · rename_i f hf
    obtain ⟨a, c, C, rfl, ia, hm⟩ := recv_ins g r hf
    have ok := hk c C ia.hc ia.ex
    obtain ⟨dx, fs, e1, e2⟩ := ia.look ok hm
    obtain rfl : u = Value.ref a := rx
    refine getmeth_ok I1 e1 ok.cl (ok.meth m f hm) e2 ?_
    have hh1 := hh.step y g
    have run := fn_run (lo := lo) hF hr hx f
    rcases hs with ⟨rfl, rfl⟩ | ⟨e, rs, rfl, h1, h2⟩
    · refine PySem.W.callWith_K0 (first := [.ref a]) I1.kIn (ok.meth m f hm).kp ?_
      exact run pins s1 σ H1 [.ref a] [.ref a] Q I1 (.cons rfl .nil) ⟨F1, ca1, μ1, [d], hh1.hl, g, .cons r .nil, q1⟩
    · refine PySem.W.callWith_K (first := [.ref a]) (h₀ := X.base) I1.ok.mod.kin (ok.meth m f hm).kp (thn (ha.run pos pins s1 σ H1 _ I1 ⟨F1, ca1, μ1, env, hh1, Pk.bind (R := Rps G) q1⟩) fun us s2 ⟨vs, H2, I2, rv, F2, ca2, μ2, ds, y2, g2, r2, q4⟩ => ⟨I2.kIn, ?_⟩) h1 h2
      exact run pins s2 σ H2 (.ref a :: vs) (.ref a :: us) Q I2 (.cons rfl rv) ⟨F2, ca2, μ2, d :: ds, Nat.le_trans hh1.hl y2.ml, g2, .cons (r.mono y2.fle y2.pre) r2, q4⟩
  · exact q1.elim

/-! ### attributes -/
theorem placeN_lt {f : Nat} : ∀ {l : List Nat} {i : Nat}, placeN f l = some i → l[i]? = some f
  | [], i, h => by cases h
  | y :: r, i, h => by
    simp only [placeN] at h
    split at h
    · rename_i e
      cases h
      rw [e]; rfl
    · simp only [Option.map_eq_some_iff] at h
      obtain ⟨j, h1, rfl⟩ := h
      simpa using placeN_lt h1
theorem lookup_zip {x : Str} {v : V} : ∀ {ns : List Str} {vs : List V} {i : Nat}, ns.Nodup → ns[i]? = some x → vs[i]? = some v → (ns.zip vs).lookup x = some v
  | [], _, _, _, h, _ => by simp at h
  | _ :: _, [], _, _, _, h => by simp at h
  | a :: ns, b :: vs, 0, _, h1, h2 => by
    simp at h1 h2
    subst h1 h2
    rw [List.zip_cons_cons, List.lookup_cons]
    simp
  | a :: ns, b :: vs, i + 1, nd, h1, h2 => by
    have h1' : ns[i]? = some x := by simpa using h1
    have h2' : vs[i]? = some v := by simpa using h2
    rw [List.nodup_cons] at nd
    rw [List.zip_cons_cons, List.lookup_cons]
    have : (x == a) = false := by
      rw [beq_eq_false_iff_ne]
      intro e
      exact nd.1 (e ▸ List.mem_of_getElem? h1')
    rw [this]
    exact lookup_zip nd.2 h1' h2'
theorem nm_inj {G : Geo} {l : List Nat} (nd : (l.map G.nm).Nodup) {a b : Nat} (ha : a ∈ l) (hb : b ∈ l) (e : G.nm a = G.nm b) : a = b := by
  obtain ⟨i, hi⟩ := List.getElem?_of_mem ha
  obtain ⟨j, hj⟩ := List.getElem?_of_mem hb
  have h1 : (l.map G.nm)[i]? = some (G.nm a) := by simp [hi]
  have h2 : (l.map G.nm)[j]? = some (G.nm a) := by simp [hj, e]
  have := nodup_ix nd h1 h2
  subst this
  rw [hi] at hj
  cases hj
  rfl
theorem lookN_zip {G : Geo} {l : List Nat} (nd : (l.map G.nm).Nodup) {f : Nat} (hf : f ∈ l) {d : D} {F : Hp} {ca : List Addr} : ∀ {fs : List (Nat × D)} {vs : List V}, (∀ q ∈ fs, q.1 ∈ l) → lookN f fs = some d → Rps G F ca (fs.map (·.2)) vs →
    ∃ v, ((fs.map fun q => G.nm q.1).zip vs).lookup (G.nm f) = some v ∧ Rp G F ca d v
  | [], _, _, h, _ => by cases h
  | (y, e) :: fs, vs, hm, h, r => by
    cases r with
    | cons r1 r2 =>
      rename_i v vs
      rw [List.map_cons, List.zip_cons_cons, List.lookup_cons]
      simp only [lookN] at h
      split at h
      · rename_i ey
        cases h
        subst ey
        refine ⟨v, by simp, r1⟩
      · rename_i ey
        have : (G.nm f == G.nm y) = false := by
          rw [beq_eq_false_iff_ne]
          intro z
          exact ey (nm_inj nd hf (hm (y, e) List.mem_cons_self) z)
        simp only [this]
        exact lookN_zip nd hf (fun q hq => hm q (List.mem_cons_of_mem _ hq)) h r2
theorem attr_at {d e : D} {v : V} {f : Nat} (hk : Kls X G) (g : Gd G F ca μ H) (r : Rp G F ca d v) (h : attrD G.T d f μ = some e) :
    ∃ a c dx gs C w, v = .ref a ∧ KlOk X G c C ∧ H a = some (.ins (G.cad c) dx gs) ∧ f ∈ C.flds ∧ gs.lookup (G.nm f) = some w ∧ Rp G F ca e w := by
  cases r with
  | ins hc hl hf rs =>
    rename_i c fs C a dx vs
    simp only [attrD, hc] at h
    split at h
    · cases h
    · rename_i hx
      split at h
      · rename_i i hp
        have ok := hk c C hc (by simpa using hx)
        obtain ⟨w, h1, h2⟩ := rs.get h
        have hfi := placeN_lt hp
        exact ⟨a, c, dx, _, C, w, rfl, ok, g.le _ _ hf, List.mem_of_getElem? hfi, lookup_zip ok.nd (by simp [hfi]) h1, h2⟩
      · cases h
  | cell hk' =>
    rename_i k a
    simp only [attrD] at h
    cases e1 : μ[k]? with
    | none => rw [e1] at h; cases h
    | some u =>
      rw [e1] at h
      cases u with
      | lst xs => cases h
      | obj c fs =>
        dsimp only at h
        cases hc : G.T.cls[c]? with
        | none => rw [hc] at h; cases h
        | some C =>
          rw [hc] at h
          dsimp only at h
          split at h
          · cases h
          · rename_i hx
            simp only [Bool.or_eq_true, Bool.not_eq_true', not_or, Bool.not_eq_true, Bool.not_eq_false] at hx
            have ok := hk c C hc hx.1.1
            have hfm : f ∈ C.flds := by simpa using hx.1.2
            obtain ⟨dx, vs, h1, h2, h3⟩ := g.cel k a _ hk' e1
            obtain ⟨w, h4, h5⟩ := lookN_zip ok.nd hfm (fun q hq => by simpa using List.all_eq_true.mp hx.2 q hq) h h3
            exact ⟨a, c, dx, _, C, w, rfl, ok, h1, hfm, h4, h5⟩
  | _ => simp [attrD] at h
theorem pe_attrD {o : Expr} {io : IE} {f : Nat} {pos : Pos} (hk : Kls X G) (ho : PE X o (tD G cl lo n io W)) (hb : plainO o = true) : PE X (.Attribute o (G.nm f) pos) (tD G cl lo (n + 1) (.attr io f) W) := by
  refine ⟨fun pins s σ H Q I ⟨F, ca, μ, env, hh, q⟩ => ?_⟩
  simp only [evE] at q
  refine attr_of (plain_base hb) (thn (ho.run pins s σ H _ I ⟨F, ca, μ, env, hh, Pk.bind (R := Rp G) q⟩) fun u s1 ⟨x, H1, I1, rx, F1, ca1, μ1, d, y, g, r, q1⟩ => ?_)
  split at q1
  · rename_i e he
    obtain ⟨a, c, dx, gs, C, w, rfl, ok, e1, hf, hl, re⟩ := attr_at hk g r he
    obtain rfl : u = Value.ref a := rx
    exact getattr_ok I1 e1 ok.cl (ok.fld f hf) hl fun u' s2 I2 ru => ⟨w, H1, I2, ru, q1.now g re⟩
  · exact q1.elim

/-! ### items -/
/-- a list or a tuple that is read -/
theorem items_at {d : D} {v : V} {xs : List D} (g : Gd G F ca μ H) (r : Rp G F ca d v) (h : items μ d = some xs) : ∃ a vs, v = .ref a ∧ (SqL G.K H a vs ∨ SqT G.K H a vs) ∧ Rps G F ca xs vs := by
  cases r with
  | tup hs rs => cases h; exact ⟨_, _, rfl, .inr (sqT_le hs g.le), rs⟩
  | lst hs rs => cases h; exact ⟨_, _, rfl, .inl (SqL.of (g.le _ _ hs)), rs⟩
  | arg hs rs => cases h; exact ⟨_, _, rfl, .inl (sqL_le hs g.le), rs⟩
  | cell hk =>
    rename_i k a
    simp only [items] at h
    split at h
    · rename_i ys e
      cases h
      obtain ⟨vs, h1, rs⟩ := g.cel k a _ hk e
      exact ⟨a, vs, rfl, .inl (SqL.of h1), rs⟩
    · cases h
  | _ => cases h
theorem list_at {d : D} {v : V} {xs : List D} (g : Gd G F ca μ H) (r : Rp G F ca d v) (h : isList μ d = some xs) : ∃ a vs, v = .ref a ∧ H a = some (.lst vs) ∧ Rps G F ca xs vs := by
  cases r with
  | lst hs rs => cases h; exact ⟨_, _, rfl, g.le _ _ hs, rs⟩
  | cell hk =>
    rename_i k a
    simp only [isList] at h
    split at h
    · rename_i ys e
      cases h
      obtain ⟨vs, h1, rs⟩ := g.cel k a _ hk e
      exact ⟨a, vs, rfl, h1, rs⟩
    · cases h
  | _ => cases h
theorem ixOf_eq (n : Nat) (i : Int) : ixOf n i = ixN n i := rfl
theorem at_ok {d i e : D} {x y : V} (g : Gd G F ca μ H) (r : Rp G F ca d x) (ri : Rp G F ca i y) (h : atD μ d i = some e) (hK : X.K = G.K) {Q : VK} (q : ∀ w, Rp G F ca e w → Q w H) : rIx X.K x y H Q := by
  unfold atD at h
  split at h
  · rename_i j
    cases ri
    split at h
    · rename_i xs hx
      obtain ⟨a, vs, rfl, hs, rs⟩ := items_at g r hx
      split at h
      · rename_i k hk
        obtain ⟨w, h1, h2⟩ := rs.get h
        have ha : atI vs j = some w := by
          unfold atI
          rw [← rs.length, ← ixOf_eq, hk]
          exact h1
        rw [hK]
        rcases hs with hs | hs
        · exact .inl ⟨a, vs, j, w, rfl, rfl, hs, ha, q w h2⟩
        · exact .inr (.inl ⟨a, vs, j, w, rfl, rfl, hs, ha, q w h2⟩)
      · cases h
    · cases h
  · cases h
theorem pe_subD {a b : Expr} {ia ib : IE} {pos : Pos} (hK : X.K = G.K) (ha : PE X a (tD G cl lo n ia W)) (hb : PE X b (tD G cl lo n ib W)) (hs : PlainIx b) : PE X (.Subscript a b pos) (tD G cl lo (n + 1) (.sub ia ib) W) := by
  refine PE.imp (pe_ix ix_seq ha hb hs) fun σ H Q ⟨F, ca, μ, env, hh, q⟩ => ?_
  obtain ⟨F', ca', μ', env', hh', h⟩ := two_of (f := fun x y μ => match atD μ x y with
      | some d => .ok d μ
      | none => .stuck) hh q
  refine ⟨F', ca', μ', env', hh', h.imp fun x H1 ⟨F2, ca2, μ2, env2, hh2, h2⟩ => ⟨F2, ca2, μ2, env2, hh2, h2.imp fun y H2 ⟨F3, ca3, μ3, d, e, _, g, r1, r2, q2⟩ => ?_⟩⟩
  dsimp only at q2
  split at q2
  · rename_i w hw
    exact at_ok g r1 r2 hw hK fun v rv => q2.now g rv
  · exact q2.elim
/-- slices -/
theorem po_D {e : Option Expr} {o : Option IE} (h : (e = none ∧ o = none) ∨ ∃ e' o', e = some e' ∧ o = some o' ∧ PE X e' (tD G cl lo n o' W)) :
    ∃ t : TO, PO X e t ∧ ∀ {F ca μ env σ H} {Q : Option Int → Hp → Prop}, Here G lo F ca μ H env σ → Pk G lo (fun _ _ (a b : Option Int) => a = b) F ca μ H (evO (evE G.T cl lo n env) o μ) σ Q W → t σ H Q := by
  rcases h with ⟨rfl, rfl⟩ | ⟨e', o', rfl, rfl, h⟩
  · exact ⟨_, po_none, fun hh q => q.now hh.g rfl⟩
  · refine ⟨_, po_some h, fun {F ca μ env σ H Q} hh q => ⟨F, ca, μ, env, hh, (Pk.bind (R := Rp G) q).imp fun v H1 ⟨F1, ca1, μ1, d, x, g, r, q1⟩ => ?_⟩⟩
    split at q1
    · rename_i i
      cases r
      split at q1
      · exact ⟨i, rfl, q1.now g rfl⟩
      · exact q1.elim
    · exact q1.elim
theorem clamp_eq (n d : Nat) (o : Option Int) : clampIx n d o = HT.sIx n d o := by
  cases o with
  | none => rfl
  | some i =>
    show (if i < 0 then (i + n).toNat else if (n : Int) < i then n else i.toNat) = (if i < 0 then (i + (n : Int)).toNat else min i.toNat n)
    split
    · rfl
    · split <;> omega
theorem cut_rps {xs : List D} {vs : List V} (r : Rps G F ca xs vs) (lo hi : Option Int) : Rps G F ca (cut xs lo hi) (cutV vs lo hi) := by
  unfold cut cutV
  rw [clamp_eq, clamp_eq, r.length]
  exact (r.drop _).take _
theorem cut_whole {xs : List V} {lo hi : Option Int} (h : HT.sIx xs.length 0 lo = 0 ∧ HT.sIx xs.length xs.length hi = xs.length) : cutV xs lo hi = xs := by
  unfold cutV
  rw [h.1, h.2]
  simp
theorem sl_ok {c : Bool} {d : D} {x : V} {l h : Option Int} (hK : X.K = G.K) (g : Gd G F ca μ H) (hl : lo ≤ μ.length) (r : Rp G F ca d x) (q : Pk G lo (Rp G) F ca μ H (sliceD c d l h μ) σ Q W) : rSlA X.K x l h H Q ∨ rSlL X.K x l h H Q := by
  have list : ∀ (xs : List D), isList μ d = some xs → Pk G lo (Rp G) F ca μ H (newL c (cut xs l h) μ) σ Q W → rSlL X.K x l h H Q := fun xs hx q => by
    obtain ⟨a, vs, rfl, h1, rs⟩ := list_at g r hx
    exact ⟨a, vs, rfl, SqL.of h1, (newL_ok g hl (cut_rps rs l h) q).2⟩
  unfold sliceD at q
  cases r with
  | tup hs rs =>
    rename_i xs a vs
    refine .inl ⟨a, vs, rfl, by rw [hK]; exact sqT_le hs g.le, fun hw => ?_, fun _ p hp => ?_⟩
    · have := cut_rps rs l h
      rw [cut_whole hw] at this
      exact q.now g (.tup hs this)
    · exact q (.ref p) (upd F p (.tup (cutV vs l h))) ca _ (Xt.laid g hp _) (g.laid hp _) (.tup (SqT.of upd_same) ((cut_rps rs l h).mono (upd_le (g.none_of hp)) Pre.rfl'))
  | arg hs rs =>
    rename_i xs a vs
    exact .inr ⟨a, vs, rfl, by rw [hK]; exact sqL_le hs g.le, (newL_ok g hl (cut_rps rs l h) q).2⟩
  | lst hs rs => exact .inr (list _ rfl q)
  | cell hk =>
    dsimp only at q
    split at q
    · rename_i xs hx
      exact .inr (list xs hx q)
    · exact q.elim
  | _ => exact q.elim
theorem pe_sliceD {a : Expr} {ia : IE} {l h : Option Expr} {il ih : Option IE} {c : Bool} {p2 pos : Pos} (hK : X.K = G.K) (ha : PE X a (tD G cl lo n ia W))
    (hl : (l = none ∧ il = none) ∨ ∃ e' o', l = some e' ∧ il = some o' ∧ PE X e' (tD G cl lo n o' W)) (hh : (h = none ∧ ih = none) ∨ ∃ e' o', h = some e' ∧ ih = some o' ∧ PE X e' (tD G cl lo n o' W)) :
    PE X (.Subscript a (.Slice l h none p2) pos) (tD G cl lo (n + 1) (.slice c ia il ih) W) := by
  obtain ⟨tl, pl, fl⟩ := po_D hl
  obtain ⟨th, ph, fh⟩ := po_D hh
  refine PE.imp (pe_slice (SlR.or sl_tupA sl_list) ha pl ph) fun σ H Q ⟨F, ca, μ, env, hh, q⟩ => ?_
  simp only [evE] at q
  refine ⟨F, ca, μ, env, hh, (Pk.bind (R := Rp G) q).imp fun x H1 ⟨F1, ca1, μ1, d, y, g, r, q1⟩ => ?_⟩
  have hh1 := hh.step y g
  refine fl hh1 ((Pk.bind (R := fun _ _ (a b : Option Int) => a = b) q1).imp fun i H2 ⟨F2, ca2, μ2, i', y2, g2, r2, q2⟩ => ?_)
  have r2 : i' = i := r2
  subst r2
  have hh2 := hh1.step y2 g2
  refine fh hh2 ((Pk.bind (R := fun _ _ (a b : Option Int) => a = b) q2).imp fun j H3 ⟨F3, ca3, μ3, j', y3, g3, r3, q3⟩ => ?_)
  have r3 : j' = j := r3
  subst r3
  exact sl_ok hK g3 (hh2.step y3 g3).hl ((r.mono y2.fle y2.pre).mono y3.fle y3.pre) q3
end
end Sd

set_option Elab.async false
set_option linter.all false
set_option maxRecDepth 100000
set_option maxHeartbeats 4000000
/-! Sd5: equality. -/
namespace SdQ
open PySem PySem.SeqAt GQ
open AutoSeq1 (wpAny_loadPart')
open MeetsSeq MeetsSeq2 MeetsSeq3 SeqRoads2
section
variable {prog : Program} {w : World} {A : Around} {R : Result → Shared → Prop}
/-- how far the pairs agree: J i before the i-th pair; the answer at the first pair that differs, or by the sizes -/
structure Turns (prog : Program) (w : World) (A : Around) (E : Value → Shared → Prop) (xs ys : Array Value) (J : Nat → Shared → Prop) (Z : Bool → Shared → Prop) : Prop where
  turn : ∀ i (h1 : i < xs.size) (h2 : i < ys.size) s, J i s → wpAny (model prog w) A.in1 (eqBool xs[i] ys[i]) (fun r s' => if r = true then J (i + 1) s' else Z false s') E s
  fin : ∀ s i, J i s → (xs.size ≤ i ∨ ys.size ≤ i) → i ≤ xs.size → i ≤ ys.size → Z (xs.size == ys.size) s
theorem tup_eq {l b : Addr} {xs ys : Array Value} {n n2 : Nat} {dd dd2 : Option Addr} {sl sl2 : Array (Option Value)} {J : Nat → Shared → Prop}
    (T : Turns prog w A (fun e s' => R (.error e) s') xs ys J fun r s' => R (.ok (.ret (.bool r))) s') {s : Shared} (hl : s.heap.get? l = some { cls := .type "tuple", dict := dd, data := .seq xs n, slots := sl })
    (hb : s.heap.get? b = some { cls := .type "tuple", dict := dd2, data := .seq ys n2, slots := sl2 }) (h0 : J 0 s) :
    wpAny (model prog w) A.in1 (Builtin.«tuple.__eq__» ⟨[.ref l, .ref b], []⟩) (FinOf prog w A R) (fun e s' => R (.error e) s') s := by
  have f2 := AutoSeq1.sub_tuple_tuple
  have hL : (xs.toList.zip ys.toList).length = min xs.size ys.size := by simp
  have j0 := h0
  obtain ⟨hp, g, d, tk, os⟩ := s
  wp_walk using wpAny_loadPart' hl, wpAny_loadPart' hb, wpAny_forIn_list _ (fun rest q s' => q.1 = none ∧ ∃ i, rest = (xs.toList.zip ys.toList).drop i ∧ i ≤ xs.size ∧ i ≤ ys.size ∧ J i s') _
  case turn =>
    rintro ⟨u, v⟩ rest q s' ⟨_, i, hz, hi, hi2, hJ⟩
    have hlt : i < (xs.toList.zip ys.toList).length := by
      rcases Nat.lt_or_ge i (xs.toList.zip ys.toList).length with h' | h'
      · exact h'
      · rw [List.drop_of_length_le h'] at hz; cases hz
    have h1 : i < xs.size := by omega
    have h2 : i < ys.size := by omega
    rw [List.drop_eq_getElem_cons hlt] at hz
    injection hz with huv hrest
    have hu : u = xs[i] := by simpa using congrArg Prod.fst huv
    have hv : v = ys[i] := by simpa using congrArg Prod.snd huv
    subst hu hv
    refine wpAny_bind (wpAny_mono (T.turn i h1 h2 s' hJ) (fun r s2 q2 => ?_) fun _ _ x => x)
    cases r with
    | true =>
      wp_walk
      exact ⟨rfl, i + 1, hrest, h1, h2, by simpa using q2⟩
    | false =>
      wp_walk
      simpa using q2
  case fin =>
    rintro ⟨q1, q2⟩ s' ⟨hq, i, hz, hi, hi2, hJ⟩
    simp only at hq
    subst hq
    have hge : min xs.size ys.size ≤ i := by
      rcases Nat.lt_or_ge i (xs.toList.zip ys.toList).length with h' | h'
      · rw [List.drop_eq_getElem_cons h'] at hz; cases hz
      · omega
    have hR : R (.ok (.ret (.bool (xs.size == ys.size)))) s' := T.fin s' i hJ (by omega) hi hi2
    wp_walk
    simpa [Builtin.Tuple.tupleCompareSizes] using hR
  case h =>
    exact ⟨rfl, 0, rfl, Nat.zero_le _, Nat.zero_le _, j0⟩
theorem tup_ne {l b : Addr} {xs ys : Array Value} {n n2 : Nat} {dd dd2 : Option Addr} {sl sl2 : Array (Option Value)} {J : Nat → Shared → Prop}
    (T : Turns prog w A (fun e s' => R (.error e) s') xs ys J fun r s' => R (.ok (.ret (.bool (!r)))) s') {s : Shared} (hl : s.heap.get? l = some { cls := .type "tuple", dict := dd, data := .seq xs n, slots := sl })
    (hb : s.heap.get? b = some { cls := .type "tuple", dict := dd2, data := .seq ys n2, slots := sl2 }) (h0 : J 0 s) :
    wpAny (model prog w) A.in1 (Builtin.«tuple.__ne__» ⟨[.ref l, .ref b], []⟩) (FinOf prog w A R) (fun e s' => R (.error e) s') s := by
  have f2 := AutoSeq1.sub_tuple_tuple
  have hL : (xs.toList.zip ys.toList).length = min xs.size ys.size := by simp
  have j0 := h0
  obtain ⟨hp, g, d, tk, os⟩ := s
  wp_walk using wpAny_loadPart' hl, wpAny_loadPart' hb, wpAny_forIn_list _ (fun rest q s' => q.1 = none ∧ ∃ i, rest = (xs.toList.zip ys.toList).drop i ∧ i ≤ xs.size ∧ i ≤ ys.size ∧ J i s') _
  case turn =>
    rintro ⟨u, v⟩ rest q s' ⟨_, i, hz, hi, hi2, hJ⟩
    have hlt : i < (xs.toList.zip ys.toList).length := by
      rcases Nat.lt_or_ge i (xs.toList.zip ys.toList).length with h' | h'
      · exact h'
      · rw [List.drop_of_length_le h'] at hz; cases hz
    have h1 : i < xs.size := by omega
    have h2 : i < ys.size := by omega
    rw [List.drop_eq_getElem_cons hlt] at hz
    injection hz with huv hrest
    have hu : u = xs[i] := by simpa using congrArg Prod.fst huv
    have hv : v = ys[i] := by simpa using congrArg Prod.snd huv
    subst hu hv
    refine wpAny_bind (wpAny_mono (T.turn i h1 h2 s' hJ) (fun r s2 q2 => ?_) fun _ _ x => x)
    cases r with
    | true =>
      wp_walk
      exact ⟨rfl, i + 1, hrest, h1, h2, by simpa using q2⟩
    | false =>
      wp_walk
      simpa using q2
  case fin =>
    rintro ⟨q1, q2⟩ s' ⟨hq, i, hz, hi, hi2, hJ⟩
    simp only at hq
    subst hq
    have hge : min xs.size ys.size ≤ i := by
      rcases Nat.lt_or_ge i (xs.toList.zip ys.toList).length with h' | h'
      · rw [List.drop_eq_getElem_cons h'] at hz; cases hz
      · omega
    have hR : R (.ok (.ret (.bool (!(xs.size == ys.size))))) s' := T.fin s' i hJ (by omega) hi hi2
    wp_walk
    simpa [Builtin.Tuple.tupleCompareSizes, bne] using hR
  case h =>
    exact ⟨rfl, 0, rfl, Nat.zero_le _, Nat.zero_le _, j0⟩
/-- the same of lists: they stand still -/
structure TurnsL (prog : Program) (w : World) (A : Around) (E : Value → Shared → Prop) (l b : Addr) (J : Nat → Shared → Prop) (N : Nat) (Z : Bool → Shared → Prop) : Prop where
  turn : ∀ i s, J i s → ∃ (xs ys : Array Value) (n n2 : Nat), s.heap.get? l = some { cls := .type "list", data := .seq xs n } ∧ s.heap.get? b = some { cls := .type "list", data := .seq ys n2 } ∧ xs.size = N ∧ ys.size = N ∧
    ∀ (h1 : i < xs.size) (h2 : i < ys.size), wpAny (model prog w) A.in1 (eqBool xs[i] ys[i]) (fun r s' => if r = true then J (i + 1) s' else ((∃ (zs ws : Array Value) (m m2 : Nat), s'.heap.get? l = some { cls := .type "list", data := .seq zs m } ∧
      s'.heap.get? b = some { cls := .type "list", data := .seq ws m2 } ∧ zs.size = N ∧ ws.size = N) ∧ Z false s')) E s
  fin : ∀ s, J N s → Z true s
theorem lst_loop (code : Int) (yes no : Bool) (hc : (code = 2 ∧ yes = true ∧ no = false) ∨ (code = 3 ∧ yes = false ∧ no = true)) {l b : Addr} {N : Nat} {J : Nat → Shared → Prop}
    (T : TurnsL prog w A (fun e s' => R (.error e) s') l b J N fun r s' => R (.ok (.ret (.bool (if r then yes else no)))) s') (k : Nat) :
    ∀ i : Nat, N - i = k → i ≤ N → ∀ s, J i s → wpAny (model prog w) A.in1 (Builtin.«list.__eq__.loop» ⟨[.ref l, .ref b, rawInt i, rawInt code], []⟩) (FinOf prog w A R) (fun e s' => R (.error e) s') s := by
  induction k with
  | zero =>
    intro i hk hi s h
    obtain ⟨xs, ys, n, n2, hl, hb, z1, z2, _⟩ := T.turn _ _ h
    have hiN : i = N := by omega
    have hR : R (.ok (.ret (.bool yes))) s := by simpa using T.fin s (hiN ▸ h)
    obtain ⟨hp, g, d, tk, os⟩ := s
    have e1 : xs[((i : Nat) : Int).toNat]? = none := by simp; omega
    have e2 : ys[((i : Nat) : Int).toNat]? = none := by simp; omega
    rcases hc with ⟨rfl, rfl, rfl⟩ | ⟨rfl, rfl, rfl⟩
    all_goals
      wp_walk using wpAny_loadPart' hl, wpAny_loadPart' hb
      rw [e1, e2]
      wp_walk using wpAny_loadPart' hl, wpAny_loadPart' hb
      first
        | (show R (.ok (.ret (.bool (xs.size == ys.size)))) _; rw [z1, z2]; simpa using hR)
        | (show R (.ok (.ret (.bool (xs.size != ys.size)))) _; rw [z1, z2]; simpa using hR)
  | succ k ih =>
    intro i hk hi s h
    obtain ⟨xs, ys, n, n2, hl, hb, z1, z2, turn⟩ := T.turn _ _ h
    have l1 : i < xs.size := by omega
    have l2 : i < ys.size := by omega
    have ht := turn l1 l2
    obtain ⟨hp, g, d, tk, os⟩ := s
    have e1 : xs[((i : Nat) : Int).toNat]? = some xs[i] := by simp [l1]
    have e2 : ys[((i : Nat) : Int).toNat]? = some ys[i] := by simp [l2]
    have ec : ((i : Int) + 1) = ((i + 1 : Nat) : Int) := by omega
    rcases hc with ⟨rfl, rfl, rfl⟩ | ⟨rfl, rfl, rfl⟩
    all_goals
      wp_walk using wpAny_loadPart' hl, wpAny_loadPart' hb
      rw [e1, e2]
      refine wpAny_bind (wpAny_mono ht (fun r s2 q2 => ?_) fun _ _ x => x)
      cases r with
      | true =>
        have hrec := ih (i + 1) (by omega) (by omega) s2 (by simpa using q2)
        obtain ⟨hp2, g2, d2, tk2, os2⟩ := s2
        wp_walk
        rw [ec]
        exact ⟨plainId_quiet plain_eq_loop _, codeAny_builtin entry_eq_loop (by
          rw [Around.under_plainId plain_eq_loop _]
          exact hrec)⟩
      | false =>
        rw [if_neg Bool.false_ne_true] at q2
        obtain ⟨⟨zs, ws, m, m2, hz, hw, w1, w2⟩, q3⟩ := q2
        have k1 : i < zs.size := by omega
        have k2 : i < ws.size := by omega
        obtain ⟨hp2, g2, d2, tk2, os2⟩ := s2
        have c1 : zs[((i : Nat) : Int).toNat]? = some zs[i] := by simp [k1]
        have c2 : ws[((i : Nat) : Int).toNat]? = some ws[i] := by simp [k2]
        wp_walk using wpAny_loadPart' hz, wpAny_loadPart' hw
        rw [c1, c2]
        wp_walk
        simpa using q3
theorem lst_eq {l b : Addr} {N M : Nat} {J : Nat → Shared → Prop} {xs ys : Array Value} {n n2 : Nat} {s : Shared} (hl : s.heap.get? l = some { cls := .type "list", data := .seq xs n }) (hb : s.heap.get? b = some { cls := .type "list", data := .seq ys n2 })
    (h1 : xs.size = N) (h2 : ys.size = M) (hne : N ≠ M → R (.ok (.ret (.bool false))) s) (T : N = M → TurnsL prog w A (fun e s' => R (.error e) s') l b J N (fun r s' => R (.ok (.ret (.bool (if r then true else false)))) s') ∧ J 0 s) :
    wpAny (model prog w) A.in1 (Builtin.«list.__eq__» ⟨[.ref l, .ref b], []⟩) (FinOf prog w A R) (fun e s' => R (.error e) s') s := by
  have f3 := AutoSeq1.sub_list_list
  by_cases hNM : N = M
  · obtain ⟨T, h0⟩ := T hNM
    have hrec := lst_loop (A := A) (R := R) 2 true false (.inl ⟨rfl, rfl, rfl⟩) T _ 0 rfl (Nat.zero_le _) s h0
    obtain ⟨hp, g, d, tk, os⟩ := s
    have hne : ¬ (xs.size != ys.size) = true := by simp [h1, h2, hNM]
    wp_walk using wpAny_loadPart' hl, wpAny_loadPart' hb
    exact ⟨plainId_quiet plain_eq_loop _, codeAny_builtin entry_eq_loop (by
      rw [Around.under_plainId plain_eq_loop _]
      exact hrec)⟩
  · have hR := hne hNM
    obtain ⟨hp, g, d, tk, os⟩ := s
    have hne : (xs.size != ys.size) = true := by simp [h1, h2, hNM]
    wp_walk using wpAny_loadPart' hl, wpAny_loadPart' hb
    exact hR
theorem lst_ne {l b : Addr} {N M : Nat} {J : Nat → Shared → Prop} {xs ys : Array Value} {n n2 : Nat} {s : Shared} (hl : s.heap.get? l = some { cls := .type "list", data := .seq xs n }) (hb : s.heap.get? b = some { cls := .type "list", data := .seq ys n2 })
    (h1 : xs.size = N) (h2 : ys.size = M) (hne : N ≠ M → R (.ok (.ret (.bool true))) s) (T : N = M → TurnsL prog w A (fun e s' => R (.error e) s') l b J N (fun r s' => R (.ok (.ret (.bool (if r then false else true)))) s') ∧ J 0 s) :
    wpAny (model prog w) A.in1 (Builtin.«list.__ne__» ⟨[.ref l, .ref b], []⟩) (FinOf prog w A R) (fun e s' => R (.error e) s') s := by
  have f3 := AutoSeq1.sub_list_list
  by_cases hNM : N = M
  · obtain ⟨T, h0⟩ := T hNM
    have hrec := lst_loop (A := A) (R := R) 3 false true (.inr ⟨rfl, rfl, rfl⟩) T _ 0 rfl (Nat.zero_le _) s h0
    obtain ⟨hp, g, d, tk, os⟩ := s
    have hne : ¬ (xs.size != ys.size) = true := by simp [h1, h2, hNM]
    wp_walk using wpAny_loadPart' hl, wpAny_loadPart' hb
    exact ⟨plainId_quiet plain_eq_loop _, codeAny_builtin entry_eq_loop (by
      rw [Around.under_plainId plain_eq_loop _]
      exact hrec)⟩
  · have hR := hne hNM
    obtain ⟨hp, g, d, tk, os⟩ := s
    have hne : (xs.size != ys.size) = true := by simp [h1, h2, hNM]
    wp_walk using wpAny_loadPart' hl, wpAny_loadPart' hb
    exact hR
end
end SdQ

set_option Elab.async false
set_option linter.all false
set_option maxRecDepth 100000
set_option maxHeartbeats 4000000
/-! Sd6: equality of the values. -/
namespace Sd
open PySem PySem.Spec PyProof.Rows L2 Pi
section
variable {G : Geo} {cl : Cll} {lo n k : Nat} {F H : Hp} {ca : List Addr} {μ : Mu} {σ : L2.St} {W : WX} {X : Cx} {pins : List (Addr × Obj)} {s : Shared}
theorem zip_inj {ns : List Str} : ∀ {vs ws : List V}, vs.length = ns.length → ws.length = ns.length → ns.zip vs = ns.zip ws → vs = ws := by
  induction ns with
  | nil =>
    intro vs ws h1 h2 _
    rw [List.length_nil, List.length_eq_zero_iff] at h1 h2
    rw [h1, h2]
  | cons a ns ih =>
    intro vs ws h1 h2 h
    cases vs with
    | nil => cases h1
    | cons v vs =>
      cases ws with
      | nil => cases h2
      | cons w ws =>
        rw [List.zip_cons_cons, List.zip_cons_cons] at h
        injection h with h3 h4
        injection h3 with _ h5
        rw [h5, ih (by simpa using h1) (by simpa using h2) h4]
theorem aparts_no {f : D → D → Bool} (hf : ∀ x y v, f x y = true → Rp G F ca x v → Rp G F ca y v → False) : ∀ {xs ys : List D} {vs : List V}, aparts f xs ys = true → Rps G F ca xs vs → Rps G F ca ys vs → False
  | [], _, _, h, _, _ => by simp [aparts] at h
  | _ :: _, [], _, h, _, _ => by simp [aparts] at h
  | x :: xs, y :: ys, _, h, .cons r1 r2, .cons q1 q2 => by
    simp only [aparts, Bool.or_eq_true] at h
    rcases h with h | h
    · exact hf _ _ _ h r1 q1
    · exact aparts_no hf h r2 q2
theorem apart_no (hK : X.K = G.K) (I : Inv X pins σ H s) (g : Gd G F ca μ H) : ∀ (n : Nat) (x y : D) (v : V), apart n x y = true → Rp G F ca x v → Rp G F ca y v → False := by
  intro n
  induction n with
  | zero => intro x y v h; simp [apart] at h
  | succ n ih =>
    intro x y v h rx ry
    cases rx with
    | int i => cases ry; simp [apart] at h
    | bl i => cases ry; simp [apart] at h
    | str i => cases ry; simp [apart] at h
    | non => cases ry; simp [apart] at h
    | tup hs rs =>
      cases y <;> simp only [apart, Bool.false_eq_true] at h
      cases ry with
      | tup hs' rs' =>
        have e := I.tuple_inj (by rw [hK]; exact sqT_le hs g.le) (by rw [hK]; exact sqT_le hs' g.le)
        subst e
        simp only [Bool.or_eq_true, decide_eq_true_eq] at h
        rcases h with h | h
        · exact h (rs.length.trans rs'.length.symm)
        · exact aparts_no ih h rs rs'
    | ins hc hl hf rs =>
      cases y <;> simp only [apart, Bool.false_eq_true] at h
      cases ry with
      | ins hc' hl' hf' rs' =>
        simp only [Bool.and_eq_true, decide_eq_true_eq] at h
        obtain ⟨rfl, h⟩ := h
        rw [hc] at hc'
        cases hc'
        rw [hf] at hf'
        injection hf' with e
        injection e with _ _ e
        have := zip_inj (by simpa using hl) (by simpa using hl') e
        subst this
        exact aparts_no ih h rs rs'
    | _ => cases y <;> simp [apart] at h
theorem allEq_same {f : D → D → Option Bool} (hf : ∀ x y v b, f x y = some b → Rp G F ca x v → Rp G F ca y v → b = true) {b : Bool} : ∀ {xs ys : List D} {vs : List V}, allEq f xs ys = some b → Rps G F ca xs vs → Rps G F ca ys vs → b = true := by
  intro xs
  induction xs with
  | nil =>
    intro ys vs h r q
    cases r
    cases q
    simpa [allEq] using h
  | cons x xs ih =>
    intro ys vs h r q
    cases r with
    | cons r1 r2 =>
      cases q with
      | cons q1 q2 =>
        rename_i y ys
        simp only [allEq] at h
        cases e : f x y with
        | none => rw [e] at h; cases h
        | some c =>
          have := hf _ _ _ _ e r1 q1
          subst this
          rw [e] at h
          exact ih h r2 q2
def flatD : D → Bool
  | .non => true
  | .bl _ => true
  | .int _ => true
  | .str _ => true
  | _ => false
/-- a value of a built-in kind in the state -/
inductive KAt (s : Shared) : Kd → Value → Prop
  | non : KAt s .non .none
  | bl (b : Bool) : KAt s .bl (.bool b)
  | int (i : Int) (t : Tok) : KAt s .int (.int i t)
  | str (z : Str) (t : Tok) : KAt s .str (.str z t)
  | tup {a : Addr} {its : Array Value} : s.heap.IsTuple a its → KAt s .tup (.ref a)
  | lst {a : Addr} {its : Array Value} : s.heap.IsList a its → KAt s .lst (.ref a)
theorem kAt (hK : X.K = G.K) (I : Inv X pins σ H s) (g : Gd G F ca μ H) {d : D} {x : V} {u : Value} {κ : Kd} (r : Rp G F ca d x) (rx : RelV x u) (h : kindD μ d = some κ) : KAt s κ u := by
  cases r with
  | non => cases h; cases rx; exact .non
  | bl b => cases h; cases rx; exact .bl b
  | int i => cases h; obtain ⟨t, rfl⟩ := rx; exact .int i t
  | str z => cases h; obtain ⟨t, rfl⟩ := rx; exact .str z t
  | tup hs rs =>
    cases h
    cases rx
    obtain ⟨_, _, p, _⟩ := I.tuple (X := X) (by rw [hK]; exact sqT_le hs g.le)
    exact .tup p
  | lst hf rs =>
    cases h
    cases rx
    obtain ⟨_, _, p, _⟩ := I.list (X := X) (.inl (.inl (g.le _ _ hf)))
    exact .lst p.isList
  | @cell k a hk =>
    simp only [kindD] at h
    split at h
    · rename_i ys e1
      cases h
      cases rx
      obtain ⟨vs, h1, _⟩ := g.cel k a _ hk e1
      obtain ⟨_, _, p, _⟩ := I.list (X := X) (.inl (.inl h1))
      exact .lst p.isList
    · cases h
  | _ => cases h
theorem KAt.inj {κ κ' : Kd} {u : Value} (h : KAt s κ u) (h' : KAt s κ' u) : κ = κ' := by
  cases h <;> cases h' <;> first | rfl | skip
  · rename_i p _ q
    obtain ⟨o, e1, c1, _⟩ := p
    obtain ⟨o', e2, c2, _⟩ := q
    rw [e1] at e2
    cases e2
    rw [c1] at c2
    injection c2 with c2
    exact absurd c2 (by decide)
  · rename_i p _ q
    obtain ⟨o, e1, c1, _⟩ := p
    obtain ⟨o', e2, c2, _⟩ := q
    rw [e1] at e2
    cases e2
    rw [c1] at c2
    injection c2 with c2
    exact absurd c2 (by decide)
theorem KAt.noIns {κ : Kd} {a dx C : Addr} {fs : List (Str × V)} (I : Inv X pins σ H s) (h : KAt s κ (.ref a)) (e : H a = some (.ins C dx fs)) : False := by
  obtain ⟨mA, J, _⟩ := ins_get I.hok e
  obtain ⟨od, J, _⟩ := J.look
  have e1 := J.at_
  have c1 := J.cls
  cases h with
  | tup p =>
    obtain ⟨o, e2, c2, _⟩ := p
    rw [e1] at e2
    cases e2
    rw [c1] at c2
    cases c2
  | lst p =>
    obtain ⟨o, e2, c2, _⟩ := p
    rw [e1] at e2
    cases e2
    rw [c1] at c2
    cases c2
theorem mixV_of {d e : D} {b : Bool} (h : mixV μ d e = some b) : ∃ κ κ', kindD μ d = some κ ∧ kindD μ e = some κ' ∧ mixK κ κ' = true ∧ b = false := by
  unfold mixV at h
  split at h
  · rename_i a b e1 e2
    split at h
    · rename_i e3
      cases h
      exact ⟨a, b, e1, e2, e3, rfl⟩
    · cases h
  · cases h
theorem insV_of {d e : D} {b : Bool} (h : insV G.T cl μ d e = some b) : ∃ κ f μ1, kindD μ e = some κ ∧ recvM G.T 0 d μ = some f ∧ callF G.T cl μ.length f [d, e] μ = .ok (.bl false) μ1 ∧ b = false := by
  unfold insV at h
  split at h
  · rename_i κ e1
    split at h
    · rename_i f e2
      split at h
      · rename_i μ1 e3
        cases h
        exact ⟨κ, f, μ1, e1, e2, e3, rfl⟩
      · cases h
    · cases h
  · cases h
theorem eqv_shape {d e : D} {b : Bool} (h : eqv G.T cl μ (n + 1) d e = some b) :
    (flatD d = true ∧ flatD e = true) ∨
    (∃ xs ys, d = .tup xs ∧ e = .tup ys ∧ allEq (eqv G.T cl μ n) xs ys = some b) ∨
    (∃ xs ys, isList μ d = some xs ∧ isList μ e = some ys ∧ (if xs.length = ys.length then allEq (eqv G.T cl μ n) xs ys else some false) = some b) ∨
    (∃ c fs gs f μ1, d = .ins c fs ∧ e = .ins c gs ∧ recvM G.T 0 (.ins c fs) μ = some f ∧ callF G.T cl μ.length f [.ins c fs, .ins c gs] μ = .ok (.bl b) μ1 ∧ (b = true ∨ aparts (apart apN) fs gs = true)) ∨
    (∃ c fs κ f μ1, d = .ins c fs ∧ kindD μ e = some κ ∧ recvM G.T 0 (.ins c fs) μ = some f ∧ callF G.T cl μ.length f [.ins c fs, e] μ = .ok (.bl false) μ1 ∧ b = false) ∨
    ∃ κ κ', kindD μ d = some κ ∧ kindD μ e = some κ' ∧ mixK κ κ' = true ∧ b = false := by
  have mix : mixV μ d e = some b → (flatD d = true ∧ flatD e = true) ∨
    (∃ xs ys, d = .tup xs ∧ e = .tup ys ∧ allEq (eqv G.T cl μ n) xs ys = some b) ∨
    (∃ xs ys, isList μ d = some xs ∧ isList μ e = some ys ∧ (if xs.length = ys.length then allEq (eqv G.T cl μ n) xs ys else some false) = some b) ∨
    (∃ c fs gs f μ1, d = .ins c fs ∧ e = .ins c gs ∧ recvM G.T 0 (.ins c fs) μ = some f ∧ callF G.T cl μ.length f [.ins c fs, .ins c gs] μ = .ok (.bl b) μ1 ∧ (b = true ∨ aparts (apart apN) fs gs = true)) ∨
    (∃ c fs κ f μ1, d = .ins c fs ∧ kindD μ e = some κ ∧ recvM G.T 0 (.ins c fs) μ = some f ∧ callF G.T cl μ.length f [.ins c fs, e] μ = .ok (.bl false) μ1 ∧ b = false) ∨
    ∃ κ κ', kindD μ d = some κ ∧ kindD μ e = some κ' ∧ mixK κ κ' = true ∧ b = false := fun h => .inr (.inr (.inr (.inr (.inr (mixV_of h)))))
  cases d with
  | ins c fs =>
    cases e with
    | ins c' gs =>
      simp only [eqv] at h
      split at h
      · rename_i e1
        subst e1
        split at h
        · rename_i f hf'
          split at h
          · rename_i b' μ1 hb
            cases b' with
            | true =>
              have : b = true := by simpa using h.symm
              subst this
              exact .inr (.inr (.inr (.inl ⟨_, _, _, f, μ1, rfl, rfl, hf', hb, .inl rfl⟩)))
            | false =>
              simp only [Bool.false_eq_true, if_false] at h
              split at h
              · rename_i ha
                cases h
                exact .inr (.inr (.inr (.inl ⟨_, _, _, f, μ1, rfl, rfl, hf', hb, .inr ha⟩)))
              · cases h
          · cases h
        · cases h
      · cases h
    | _ =>
      simp only [eqv] at h
      obtain ⟨κ, f, μ1, h1, h2, h3, h4⟩ := insV_of h
      exact .inr (.inr (.inr (.inr (.inl ⟨c, fs, κ, f, μ1, rfl, h1, h2, h3, h4⟩))))
  | tup xs =>
    cases e with
    | tup ys => exact .inr (.inl ⟨_, _, rfl, rfl, by simpa only [eqv] using h⟩)
    | _ => exact mix (by simpa only [eqv] using h)
  | lst xs =>
    cases e with
    | lst ys => exact .inr (.inr (.inl ⟨_, _, rfl, rfl, by simpa only [eqv] using h⟩))
    | cell k =>
      simp only [eqv] at h
      split at h
      · rename_i e1
        exact .inr (.inr (.inl ⟨_, _, rfl, by simp only [isList, e1], h⟩))
      · cases h
    | _ => exact mix (by simpa only [eqv] using h)
  | cell k =>
    cases e with
    | lst ys =>
      simp only [eqv] at h
      split at h
      · rename_i e1
        exact .inr (.inr (.inl ⟨_, _, by simp only [isList, e1], rfl, h⟩))
      · cases h
    | _ => exact mix (by simpa only [eqv] using h)
  | non => cases e <;> first | exact .inl ⟨rfl, rfl⟩ | exact mix (by simpa only [eqv] using h)
  | bl _ => cases e <;> first | exact .inl ⟨rfl, rfl⟩ | exact mix (by simpa only [eqv] using h)
  | int _ => cases e <;> first | exact .inl ⟨rfl, rfl⟩ | exact mix (by simpa only [eqv] using h)
  | str _ => cases e <;> first | exact .inl ⟨rfl, rfl⟩ | exact mix (by simpa only [eqv] using h)
  | _ => exact mix (by simpa only [eqv] using h)
/-- one object is equal to itself -/
theorem eqv_same (hK : X.K = G.K) (I : Inv X pins σ H s) (g : Gd G F ca μ H) : ∀ (n : Nat) (x y : D) (v : V) (b : Bool), eqv G.T cl μ n x y = some b → Rp G F ca x v → Rp G F ca y v → b = true := by
  intro n
  induction n with
  | zero => intro x y v b h; simp [eqv] at h
  | succ n ih =>
    intro x y v b h rx ry
    rcases eqv_shape h with ⟨fx, fy⟩ | ⟨xs, ys, rfl, rfl, ha⟩ | ⟨xs, ys, i1, i2, ha⟩ | ⟨c, fs, gs, f, μ1, rfl, rfl, hr, hc, hp⟩ | ⟨c, fs, κ, f, μ1, rfl, h1, h2, h3, rfl⟩ | ⟨κ, κ', h1, h2, h3, rfl⟩
    · cases rx <;> first | (exact absurd (show false = true from fx) Bool.false_ne_true) | (cases ry; simpa [eqv] using h)
    · cases rx with
      | tup hs rs =>
        cases ry with
        | tup hs' rs' =>
          have e := I.tuple_inj (by rw [hK]; exact sqT_le hs g.le) (by rw [hK]; exact sqT_le hs' g.le)
          subst e
          exact allEq_same ih ha rs rs'
    · obtain ⟨a, vs, rfl, e1, r1⟩ := list_at g rx i1
      obtain ⟨a', ws, e0, e2, r2⟩ := list_at g ry i2
      cases e0
      rw [e1] at e2
      cases e2
      rw [if_pos (r1.length.trans r2.length.symm)] at ha
      exact allEq_same ih ha r1 r2
    · rcases hp with hp | hp
      · exact hp
      · exfalso
        cases rx with
        | ins hc0 hl hf rs =>
          cases ry with
          | ins hc' hl' hf' rs' =>
            rw [hc0] at hc'
            cases hc'
            rw [hf] at hf'
            injection hf' with e
            injection e with _ _ e
            have := zip_inj (by simpa using hl) (by simpa using hl') e
            subst this
            exact aparts_no (apart_no hK I g apN) hp rs rs'
    · exfalso
      cases rx with
      | ins hc0 hl hf rs => exact KAt.noIns I (kAt hK I g ry (u := .ref _) rfl h1) (g.le _ _ hf)
    · exfalso
      obtain ⟨u, ru⟩ : ∃ u, RelV v u := by
        cases v <;> first | exact ⟨_, rfl⟩ | exact ⟨_, 0, rfl⟩ | exact ⟨_, default, rfl⟩
      have := KAt.inj (kAt hK I g rx ru h1) (kAt hK I g ry ru h2)
      subst this
      simp [mixK] at h3
end
end Sd
namespace SdQ
open PySem PySem.Spec PyProof.Rows PySem.SeqAt
section
variable {M : Model} {prog : Program} {w : World} {A : Around} {E : Value → Shared → Prop} {s : Shared} {K : PySem.W.Frag} {x C f : Addr} {b tb : Value} {ox : Obj} {od : Option Obj}
theorem ifBound_ne {args : List Value} {Q : Option Value → Shared → Prop} (X : K.In s.heap) (I : PySem.W.InstAt s.heap x ox C od) (hs : PySem.W.findIn K (.ref C) "__ne__" = some (some (.builtin "object.__ne__")))
    (h : wpAny M A (call (.builtin "object.__ne__") (.ref x :: args)) (fun v => Q (some v)) E s) : wpAny M A (callSpecialIfBound? (.ref x) "__ne__" args) Q E s := by
  simp only [callSpecialIfBound?, bindSpecialIfBound?]
  refine wpAny_holding (wpAny_bind (wpAny_bind (wpAny_bind (I.type.here ((PySem.W.looks_findIn X hs).here (wpAny_bind (wpAny_askSetting (wpAny_ite ?_))))))))
  have done : wpAny M A (call (.builtin "object.__ne__") ([.ref x] ++ args) >>= fun v => pure (some v)) Q E s := wpAny_bind (wpAny_mono h (fun _ _ q => wpAny_pure q) fun _ _ q => q)
  split
  · exact wpAny_bind (wpAny_of_eq (F.cmp_object.ne.bind _) (wpAny_pure (by exact done)))
  · exact wpAny_tryCatch (wpAny_bind (wpAny_of_eq (F.cmp_object.ne.bind _) (wpAny_pure (by exact done))))
theorem entry_ne {Q : PySem.Fin → Shared → Prop} (hu : A.units < cLine) (X : K.In s.heap) (I : PySem.W.InstAt s.heap x ox C od) (hs : PySem.W.findIn K (.ref C) "__eq__" = some (some (.ref f))) (hf : PySem.W.isFn K (.ref f) = true)
    (h : wpAny (model prog w) A (call (.ref f) [.ref x, b]) (fun v s' => ∃ k, v = .bool k ∧ Q (.done (.ret (.bool (!k)))) s') E s) :
    wpAny (model prog w) A (Builtin.«object.__ne__» ⟨[.ref x, b], []⟩) Q E s := by
  have go : wpAny (model prog w) A (callSpecialIfBound? (.ref x) (Str.ofString "__eq__") [b]) (fun r s' => ∃ k, r = some (.bool k) ∧ Q (.done (.ret (.bool (!k)))) s') E s :=
    PySem.W.ifBound_K X I hs hf (wpAny_mono h (fun v s' ⟨b, e, q⟩ => ⟨b, by rw [e], q⟩) fun _ _ z => z)
  unfold Builtin.«object.__ne__»
  repeat (first
    | with_reducible refine wpAny_cRoomFor hu ?_
    | (refine wpAny_bind (m := callSpecialIfBound? (.ref x) (Str.ofString "__eq__") [b]) (wpAny_mono go (fun r s' ⟨b, e, q⟩ => ?_) fun _ _ z => z); subst e)
    | exact wpAny_truthy_bool q
    | (refine wpAny_bind (m := truthy (.bool _)) (wpAny_truthy_bool ?_))
    | exact wpAny_pure q
    | wp_step)
theorem ne_K {Q : Value → Shared → Prop} (hu : A.units + 1 < cLine) (X : K.In s.heap) (I : PySem.W.InstAt s.heap x ox C od) (hb : PySem.W.Looks (model prog w) s.heap (typeOf b) tb) (hn : PySem.W.notFirst K C tb = true) (hm : PySem.W.mroIn K C (.type "object") = some true)
    (hne : PySem.W.findIn K (.ref C) "__ne__" = some (some (.builtin "object.__ne__"))) (hs : PySem.W.findIn K (.ref C) "__eq__" = some (some (.ref f))) (hf : PySem.W.isFn K (.ref f) = true)
    (h : wpAny (model prog w) A.in1 (call (.ref f) [.ref x, b]) (fun v s' => ∃ k, v = .bool k ∧ Q (.bool (!k)) s') E s) : wpAny (model prog w) A (richCompare .NotEq (.ref x) b) Q E s := by
  have one : wpAny (model prog w) A (tryCompare (.ref x) "__ne__" b) (fun r s' => ∃ k, r = some (.bool (!k)) ∧ Q (.bool (!k)) s') E s := by
    unfold tryCompare
    refine wpAny_bind (ifBound_ne X I hne (wpAny_call (codeAny_call_builtin F.cmp_object.ne.plain F.cmpEntry_ne
      (PySem.W.check_slot F.cmpKind_ne F.cmpSplit_ne (I.type.andThen (PySem.W.looks_mroIn X hm)) (F.cmpArgs_ne _ _) (entry_ne (A := A.in1) hu X I hs hf (wpAny_mono h (fun v s' ⟨b, e, q⟩ => ⟨b, e, ?_⟩) fun _ _ z => z))))))
    exact wpAny_pure ⟨b, rfl, q⟩
  unfold richCompare
  simp only [oneThing_ref]
  refine wpAny_holding (wpAny_bind (wpAny_cRoomFor (Nat.lt_of_succ_lt hu) ?_))
  rw [cmpInfo_NotEq]
  dsimp only
  refine wpAny_bind (I.type.here (wpAny_bind (hb.here ?_)))
  split
  · rename_i q
    have e : PySem.W.subIn K tb (.ref C) = some false := by
      rcases Bool.or_eq_true_iff.mp hn with e | e
      · rw [beq_iff_eq.mp e] at q; simp at q
      · exact beq_iff_eq.mp e
    refine wpAny_bind ((PySem.W.looks_subIn X e).here ?_)
    simp only [Bool.false_eq_true, if_false]
    refine wpAny_bind (wpAny_mono one (fun r s' ⟨b, e, q⟩ => ?_) fun _ _ z => z)
    subst e
    exact wpAny_pure q
  · refine wpAny_bind (wpAny_pure ?_)
    simp only [Bool.false_eq_true, if_false]
    refine wpAny_bind (wpAny_mono one (fun r s' ⟨b, e, q⟩ => ?_) fun _ _ z => z)
    subst e
    exact wpAny_pure q
end
end SdQ

set_option Elab.async false
set_option linter.all false
set_option maxRecDepth 100000
set_option maxHeartbeats 4000000
/-! Sd7: == and != of the values. -/
namespace Sd
open PySem PySem.Spec PyProof.Rows L2 Pi
/-- what an == leaves -/
def Aft (X : Cx) (G : Geo) (pins : List (Addr × Obj)) (σ : L2.St) (F H : Hp) (ca : List Addr) (μ : Mu) (s' : Shared) : Prop :=
  ∃ F' H', Inv X pins σ H' s' ∧ Gd G F' ca μ H' ∧ Xt μ.length F ca μ H F' ca μ H'
def EqB (X : Cx) (G : Geo) (cl : Cll) (n m : Nat) : Prop := ∀ (A : Around) (pins : List (Addr × Obj)) (s : Shared) (σ : L2.St) (H : Hp) (x y : V) (u v : Value) (F : Hp) (ca : List Addr) (μ : Mu) (d e : D) (b : Bool), Sub X m A → Inv X pins σ H s → RelV x u → RelV y v →
  Gd G F ca μ H → Rp G F ca d x → Rp G F ca e y → eqv G.T cl μ n d e = some b → wpAny (model X.prog X.w) A (eqBool u v) (fun r s' => r = b ∧ Aft X G pins σ F H ca μ s') X.xe s
def RcB (op : CmpOp) (nb : Bool) (X : Cx) (G : Geo) (cl : Cll) (n m : Nat) : Prop := ∀ (A : Around) (pins : List (Addr × Obj)) (s : Shared) (σ : L2.St) (H : Hp) (x y : V) (u v : Value) (F : Hp) (ca : List Addr) (μ : Mu) (d e : D) (b : Bool), Sub X m A → Inv X pins σ H s → RelV x u → RelV y v →
  Gd G F ca μ H → Rp G F ca d x → Rp G F ca e y → (flatD d && flatD e) = false → eqv G.T cl μ n d e = some b → wpAny (model X.prog X.w) A (richCompare op u v) (fun r s' => r = .bool (b != nb) ∧ Aft X G pins σ F H ca μ s') X.xe s
section
variable {G : Geo} {cl : Cll} {lo n m k : Nat} {F H : Hp} {ca : List Addr} {μ : Mu} {σ : L2.St} {W : WX} {X : Cx} {pins : List (Addr × Obj)} {s : Shared}
theorem Aft.rfl' (I : Inv X pins σ H s) (g : Gd G F ca μ H) : Aft X G pins σ F H ca μ s := ⟨F, H, I, g, Xt.rfl'⟩
theorem Xt.all {F' H' : Hp} {ca' : List Addr} {μ' : Mu} (g : Gd G F ca μ H) (x : Xt μ.length F ca μ H F' ca' μ' H') {a : Addr} {o : HO} (e : H a = some o) : H' a = some o := by
  by_cases h : a ∈ ca
  · obtain ⟨i, hi, e2⟩ := List.getElem_of_mem h
    rw [x.hm i a (by rw [← g.len]; exact hi) (by rw [List.getElem?_eq_getElem hi, e2]), e]
  · exact x.fr _ _ e h
theorem eq_flat {d e : D} {x y : V} {b : Bool} (h : eqv G.T cl μ (n + 1) d e = some b) (r : Rp G F ca d x) (r' : Rp G F ca e y) (hf : flatD d = true) (hf' : flatD e = true) : flatV x = true ∧ flatV y = true ∧ eqV x y = b := by
  cases r <;> first | (exact absurd (show false = true from hf) Bool.false_ne_true) | skip
  all_goals
    cases r' <;> first | (exact absurd (show false = true from hf') Bool.false_ne_true) | (simp [eqv, mixV, kindD, mixK, seqK] at h; done) | (simp only [eqv, Option.some.injEq] at h; subst h; refine ⟨rfl, rfl, ?_⟩; simp [eqV]; done) | (simp only [eqv, Option.some.injEq] at h; subst h; refine ⟨rfl, rfl, ?_⟩; simp only [eqV]; rw [Bool.eq_iff_iff]; simp; done) | skip
theorem ref_of {d : D} {x : V} (r : Rp G F ca d x) (hf : flatD d = false) : ∃ a, x = .ref a := by
  cases r <;> first | exact ⟨_, rfl⟩ | (exact absurd (show true = false from hf) (fun h => Bool.false_ne_true h.symm))
theorem flat_v {d : D} {x : V} (r : Rp G F ca d x) (hf : flatD d = true) : flatV x = true := by
  cases r <;> first | rfl | (exact absurd (show false = true from hf) Bool.false_ne_true)
/-- == of a flat value and an object -/
theorem eqBool_mix {prog : Program} {w : World} {A : Around} {E : Value → Shared → Prop} {x : V} {u : Value} {a : Addr} {Q : Bool → Shared → Prop} (rx : RelV x u) (fx : flatV x = true) (h : wpAny (model prog w) A (richCompare .Eq u (.ref a)) (fun v s' => ∃ r, v = .bool r ∧ Q r s') E s) : wpAny (model prog w) A (eqBool u (.ref a)) Q E s := by
  cases x with
  | non =>
    cases rx
    unfold eqBool
    refine wpAny_holding ?_
    refine wpAny_ite_split (fun hab => absurd (eq_of_beq hab) (fun z => nomatch z)) (fun _ => ?_)
    refine wpAny_bind (wpAny_mono h (fun v s' hv => ?_) fun _ _ x => x)
    obtain ⟨r, rfl, q⟩ := hv
    exact wpAny_truthy_bool q
  | bl i =>
    cases rx
    unfold eqBool
    refine wpAny_holding ?_
    refine wpAny_ite_split (fun hab => absurd (eq_of_beq hab) (fun z => nomatch z)) (fun _ => ?_)
    refine wpAny_bind (wpAny_mono h (fun v s' hv => ?_) fun _ _ x => x)
    obtain ⟨r, rfl, q⟩ := hv
    exact wpAny_truthy_bool q
  | int i =>
    obtain ⟨t, rfl⟩ := rx
    unfold eqBool
    refine wpAny_holding ?_
    refine wpAny_ite_split (fun hab => absurd (eq_of_beq hab) (fun z => nomatch z)) (fun _ => ?_)
    refine wpAny_bind (wpAny_mono h (fun v s' hv => ?_) fun _ _ x => x)
    obtain ⟨r, rfl, q⟩ := hv
    exact wpAny_truthy_bool q
  | str i =>
    obtain ⟨t, rfl⟩ := rx
    unfold eqBool
    refine wpAny_holding ?_
    refine wpAny_ite_split (fun hab => absurd (eq_of_beq hab) (fun z => nomatch z)) (fun _ => ?_)
    refine wpAny_bind (wpAny_mono h (fun v s' hv => ?_) fun _ _ x => x)
    obtain ⟨r, rfl, q⟩ := hv
    exact wpAny_truthy_bool q
  | _ => exact absurd (show false = true from fx) Bool.false_ne_true
theorem eqBool_mix' {prog : Program} {w : World} {A : Around} {E : Value → Shared → Prop} {x : V} {u : Value} {a : Addr} {Q : Bool → Shared → Prop} (rx : RelV x u) (fx : flatV x = true) (h : wpAny (model prog w) A (richCompare .Eq (.ref a) u) (fun v s' => ∃ r, v = .bool r ∧ Q r s') E s) : wpAny (model prog w) A (eqBool (.ref a) u) Q E s := by
  cases x with
  | non =>
    cases rx
    unfold eqBool
    refine wpAny_holding ?_
    refine wpAny_ite_split (fun hab => absurd (eq_of_beq hab) (fun z => nomatch z)) (fun _ => ?_)
    refine wpAny_bind (wpAny_mono h (fun v s' hv => ?_) fun _ _ x => x)
    obtain ⟨r, rfl, q⟩ := hv
    exact wpAny_truthy_bool q
  | bl i =>
    cases rx
    unfold eqBool
    refine wpAny_holding ?_
    refine wpAny_ite_split (fun hab => absurd (eq_of_beq hab) (fun z => nomatch z)) (fun _ => ?_)
    refine wpAny_bind (wpAny_mono h (fun v s' hv => ?_) fun _ _ x => x)
    obtain ⟨r, rfl, q⟩ := hv
    exact wpAny_truthy_bool q
  | int i =>
    obtain ⟨t, rfl⟩ := rx
    unfold eqBool
    refine wpAny_holding ?_
    refine wpAny_ite_split (fun hab => absurd (eq_of_beq hab) (fun z => nomatch z)) (fun _ => ?_)
    refine wpAny_bind (wpAny_mono h (fun v s' hv => ?_) fun _ _ x => x)
    obtain ⟨r, rfl, q⟩ := hv
    exact wpAny_truthy_bool q
  | str i =>
    obtain ⟨t, rfl⟩ := rx
    unfold eqBool
    refine wpAny_holding ?_
    refine wpAny_ite_split (fun hab => absurd (eq_of_beq hab) (fun z => nomatch z)) (fun _ => ?_)
    refine wpAny_bind (wpAny_mono h (fun v s' hv => ?_) fun _ _ x => x)
    obtain ⟨r, rfl, q⟩ := hv
    exact wpAny_truthy_bool q
  | _ => exact absurd (show false = true from fx) Bool.false_ne_true
theorem eqB_of (hK : X.K = G.K) (h : RcB .Eq false X G cl (n + 1) m) : EqB X G cl (n + 1) m := by
  intro A pins s σ H x y u v F ca μ d e b sb I rx ry g rd re hq
  have go : (flatD d && flatD e) = false → wpAny (model X.prog X.w) A (richCompare .Eq u v) (fun r s' => ∃ k, r = .bool k ∧ k = b ∧ Aft X G pins σ F H ca μ s') X.xe s := fun hf =>
    wpAny_mono (h A pins s σ H _ _ u v F ca μ d e b sb I rx ry g rd re hf hq) (fun r s' hh => by
      obtain ⟨h1, h2⟩ := hh
      exact ⟨b, by rw [h1]; simp, rfl, h2⟩) fun _ _ x => x
  cases hf : flatD d with
  | true =>
    cases hf' : flatD e with
    | true =>
      obtain ⟨fx, fy, e1⟩ := eq_flat hq rd re hf hf'
      have q := eqAt_V (A := A) (s := s) rx ry fx fy
      rw [e1] at q
      exact q X.prog X.w X.xe _ ⟨rfl, Aft.rfl' I g⟩
    | false =>
      obtain ⟨a', rfl⟩ := ref_of re hf'
      cases ry
      exact eqBool_mix rx (flat_v rd hf) (go (by rw [hf, hf']; rfl))
  | false =>
    obtain ⟨a, rfl⟩ := ref_of rd hf
    cases hf' : flatD e with
    | true =>
      cases rx
      exact eqBool_mix' ry (flat_v re hf') (go (by rw [hf, hf']; rfl))
    | false =>
      obtain ⟨a', rfl⟩ := ref_of re hf'
      by_cases e1 : a = a'
      · subst e1
        have := eqv_same hK I g _ _ _ _ _ hq rd re
        subst this
        cases rx
        cases ry
        exact SeqAt.EqAt.same _ X.prog X.w X.xe _ ⟨rfl, Aft.rfl' I g⟩
      · have q := go (by rw [hf, hf']; rfl)
        cases rx
        cases ry
        exact GQ.eqBool_refG e1 q
/-- == and != of two kinds -/
theorem mixEq {A : Around} {u v : Value} {κ κ' : Kd} (h : KAt s κ u) (h' : KAt s κ' v) (m : mixK κ κ' = true) (hu : A.units < cLine) : SeqAt.RcAt A s u v false := by
  cases h with
  | non =>
    cases h' with
    | tup p => exact SeqAt.RcAt.none_tuple  p hu
    | lst p => exact SeqAt.RcAt.none_list  p hu
    | _ => exact absurd (show false = true from m) Bool.false_ne_true
  | bl b =>
    cases h' with
    | tup p => exact SeqAt.RcAt.bool_tuple b p hu
    | lst p => exact SeqAt.RcAt.bool_list b p hu
    | _ => exact absurd (show false = true from m) Bool.false_ne_true
  | int i t =>
    cases h' with
    | tup p => exact SeqAt.RcAt.int_tuple i t p hu
    | lst p => exact SeqAt.RcAt.int_list i t p hu
    | _ => exact absurd (show false = true from m) Bool.false_ne_true
  | str i t =>
    cases h' with
    | tup p => exact SeqAt.RcAt.str_tuple i t p hu
    | lst p => exact SeqAt.RcAt.str_list i t p hu
    | _ => exact absurd (show false = true from m) Bool.false_ne_true
  | tup p =>
    cases h' with
    | non => exact SeqAt.RcAt.tuple_none  p hu
    | bl b => exact SeqAt.RcAt.tuple_bool b p hu
    | int i t => exact SeqAt.RcAt.tuple_int i t p hu
    | str i t => exact SeqAt.RcAt.tuple_str i t p hu
    | lst q => exact SeqAt.RcAt.tuple_list p q hu
    | tup q => exact absurd (show false = true from m) Bool.false_ne_true
  | lst p =>
    cases h' with
    | non => exact SeqAt.RcAt.list_none  p hu
    | bl b => exact SeqAt.RcAt.list_bool b p hu
    | int i t => exact SeqAt.RcAt.list_int i t p hu
    | str i t => exact SeqAt.RcAt.list_str i t p hu
    | tup q => exact SeqAt.RcAt.list_tuple p q hu
    | lst q => exact absurd (show false = true from m) Bool.false_ne_true
theorem mixNe {A : Around} {u v : Value} {κ κ' : Kd} (h : KAt s κ u) (h' : KAt s κ' v) (m : mixK κ κ' = true) (hu : A.units < cLine) : SeqAt.RcNeAt A s u v true := by
  cases h with
  | non =>
    cases h' with
    | tup p => exact SeqAt.RcNeAt.none_tuple  p hu
    | lst p => exact SeqAt.RcNeAt.none_list  p hu
    | _ => exact absurd (show false = true from m) Bool.false_ne_true
  | bl b =>
    cases h' with
    | tup p => exact SeqAt.RcNeAt.bool_tuple b p hu
    | lst p => exact SeqAt.RcNeAt.bool_list b p hu
    | _ => exact absurd (show false = true from m) Bool.false_ne_true
  | int i t =>
    cases h' with
    | tup p => exact SeqAt.RcNeAt.int_tuple i t p hu
    | lst p => exact SeqAt.RcNeAt.int_list i t p hu
    | _ => exact absurd (show false = true from m) Bool.false_ne_true
  | str i t =>
    cases h' with
    | tup p => exact SeqAt.RcNeAt.str_tuple i t p hu
    | lst p => exact SeqAt.RcNeAt.str_list i t p hu
    | _ => exact absurd (show false = true from m) Bool.false_ne_true
  | tup p =>
    cases h' with
    | non => exact SeqAt.RcNeAt.tuple_none  p hu
    | bl b => exact SeqAt.RcNeAt.tuple_bool b p hu
    | int i t => exact SeqAt.RcNeAt.tuple_int i t p hu
    | str i t => exact SeqAt.RcNeAt.tuple_str i t p hu
    | lst q => exact SeqAt.RcNeAt.tuple_list p q hu
    | tup q => exact absurd (show false = true from m) Bool.false_ne_true
  | lst p =>
    cases h' with
    | non => exact SeqAt.RcNeAt.list_none  p hu
    | bl b => exact SeqAt.RcNeAt.list_bool b p hu
    | int i t => exact SeqAt.RcNeAt.list_int i t p hu
    | str i t => exact SeqAt.RcNeAt.list_str i t p hu
    | tup q => exact SeqAt.RcNeAt.list_tuple p q hu
    | lst q => exact absurd (show false = true from m) Bool.false_ne_true
theorem KAt.is {u : Value} {κ : Kd} (h : KAt s κ u) : s.TypeIs u (kdT κ) := by
  cases h with
  | non => rfl
  | bl b => rfl
  | int i t => exact typeIs_int s i t
  | str z t => exact typeIs_str s z t
  | tup p => obtain ⟨o, e, c, _⟩ := p; exact ⟨o, e, c⟩
  | lst p => obtain ⟨o, e, c, _⟩ := p; exact ⟨o, e, c⟩
theorem KAt.looks {M : Model} {u : Value} {κ : Kd} (h : KAt s κ u) : PySem.W.Looks M s.heap (typeOf u) (.type (kdT κ)) := fun A Q E s' k q => by
  cases h with
  | non => exact wpAny_typeOf (T := "NoneType") rfl q
  | bl b => exact wpAny_typeOf (T := "bool") rfl q
  | int i t => exact wpAny_typeOf (typeIs_int s' i t) q
  | str z t => exact wpAny_typeOf (typeIs_str s' z t) q
  | tup p => obtain ⟨o, e, c, _⟩ := p; exact wpAny_typeOf (T := "tuple") ⟨o, k _ _ e, c⟩ q
  | lst p => obtain ⟨o, e, c, _⟩ := p; exact wpAny_typeOf (T := "list") ⟨o, k _ _ e, c⟩ q
theorem kd_first (K : PySem.W.Frag) (C : Addr) (κ : Kd) : PySem.W.notFirst K C (.type (kdT κ)) = true := by
  cases κ <;> rfl
/-- the items from the i-th on, behind an == that was kept -/
theorem turnB (h : EqB X G cl n m) {A : Around} (sb : Sub X (m + 1) A) (g : Gd G F ca μ H) {xs ys : List D} {vs ws : List V} (r : Rps G F ca xs vs) (r2 : Rps G F ca ys ws) {b : Bool} {i : Nat} {us us2 : List Value} (hv : Vals vs us) (hw : Vals ws us2)
    (h1 : i < us.toArray.size) (h2 : i < us2.toArray.size) {s' : Shared} (l : Aft X G pins σ F H ca μ s' ∧ allEq (eqv G.T cl μ n) (xs.drop i) (ys.drop i) = some b) :
    wpAny (model X.prog X.w) A.in1 (eqBool us.toArray[i] us2.toArray[i]) (fun q s2 => Aft X G pins σ F H ca μ s2 ∧ if q = true then allEq (eqv G.T cl μ n) (xs.drop (i + 1)) (ys.drop (i + 1)) = some b else b = false) X.xe s' := by
  obtain ⟨⟨F1, H1, I1, g1, x1⟩, ha⟩ := l
  have r' := Rps.mono x1.fle x1.pre r
  have r2' := Rps.mono x1.fle x1.pre r2
  have k1 : i < us.length := by simpa using h1
  have k2 : i < us2.length := by simpa using h2
  have l1 : i < vs.length := by rw [hv.length]; exact k1
  have l2 : i < ws.length := by rw [hw.length]; exact k2
  have d1 : i < xs.length := by rw [r.length]; exact l1
  have d2 : i < ys.length := by rw [r2.length]; exact l2
  obtain ⟨u, hu, ru⟩ := hv.get (List.getElem?_eq_getElem l1)
  obtain ⟨w, hw', rw'⟩ := hw.get (List.getElem?_eq_getElem l2)
  have e1 : us.toArray[i] = u := by rw [List.getElem?_eq_getElem k1] at hu; simpa using hu
  have e2 : us2.toArray[i] = w := by rw [List.getElem?_eq_getElem k2] at hw'; simpa using hw'
  rw [e1, e2]
  obtain ⟨v1, q1, t1⟩ := r'.get (List.getElem?_eq_getElem d1)
  obtain ⟨v2, q2, t2⟩ := r2'.get (List.getElem?_eq_getElem d2)
  rw [List.getElem?_eq_getElem l1] at q1
  rw [List.getElem?_eq_getElem l2] at q2
  cases q1
  cases q2
  rw [List.drop_eq_getElem_cons d1, List.drop_eq_getElem_cons d2] at ha
  simp only [allEq] at ha
  cases e : eqv G.T cl μ n xs[i] ys[i] with
  | none => rw [e] at ha; cases ha
  | some c =>
    rw [e] at ha
    refine wpAny_mono (h A.in1 pins s' σ H1 _ _ u w F1 ca μ _ _ c sb.in1 I1 ru rw' g1 t1 t2 e) (fun q s2 hh => ?_) fun _ _ x => x
    obtain ⟨rfl, F2, H2, I2, g2, x2⟩ := hh
    refine ⟨⟨F2, H2, I2, g2, x1.trans x2⟩, ?_⟩
    cases q with
    | true => simpa using ha
    | false => simpa using ha.symm
theorem allEq_fin {f : D → D → Option Bool} {b : Bool} {xs ys : List D} {i : Nat} (h : allEq f (xs.drop i) (ys.drop i) = some b) (hi : xs.length ≤ i ∨ ys.length ≤ i) (h1 : i ≤ xs.length) (h2 : i ≤ ys.length) : b = (xs.length == ys.length) := by
  rcases hi with hi | hi
  · rw [List.drop_of_length_le hi] at h
    rcases Nat.lt_or_ge i ys.length with h3 | h3
    · rw [List.drop_eq_getElem_cons h3] at h
      simp only [allEq] at h
      cases h
      symm
      rw [beq_eq_false_iff_ne]
      omega
    · rw [List.drop_of_length_le h3] at h
      simp only [allEq] at h
      cases h
      symm
      rw [beq_iff_eq]
      omega
  · rw [List.drop_of_length_le hi] at h
    rcases Nat.lt_or_ge i xs.length with h3 | h3
    · rw [List.drop_eq_getElem_cons h3] at h
      simp only [allEq] at h
      cases h
      symm
      rw [beq_eq_false_iff_ne]
      omega
    · rw [List.drop_of_length_le h3] at h
      simp only [allEq] at h
      cases h
      symm
      rw [beq_iff_eq]
      omega
/-- an own == -/
theorem ownEq (hF : Fns X G cl k) (hx : ∀ σ, PassesAt (L2.CX X.prog X.w) X σ (WE W σ)) {A : Around} (sb : Sub X k A) (I : Inv X pins σ H s) (g : Gd G F ca μ H) {d e : D} {x y : V} {u v : Value} (rx : RelV x u) (ry : RelV y v) (rd : Rp G F ca d x) (re : Rp G F ca e y) {f : Nat} {b : Bool} {μ1 : Mu}
    (h : callF G.T cl μ.length f [d, e] μ = .ok (.bl b) μ1) : wpAny (model X.prog X.w) A (call (.ref (G.fad f)) [u, v]) (fun r s' => r = .bool b ∧ Aft X G pins σ F H ca μ s') X.xe s := by
  refine wpAny_mono (fn_runA (lo := μ.length) (Q := fun v H' => v = .bl b ∧ ∃ F', Gd G F' ca μ H' ∧ Xt μ.length F ca μ H F' ca μ H') hF sb.room sb.fr f (hx σ) I (.cons rx (.cons ry .nil)) ⟨F, ca, μ, [d, e], Nat.le_refl _, g, .cons rd (.cons re .nil), ?_⟩) (fun r s' q => ?_) fun _ _ x => x
  · rw [h]
    intro w F' ca' H' x1 g1 r1
    refine ⟨by cases r1; rfl, _, g.shrinkP x1 g1, x1.shrink g g1 (fun _ _ => rfl) rfl⟩
  · obtain ⟨w, H', I', rw', e1, F', g', x'⟩ := q
    subst e1
    cases rw'
    exact ⟨rfl, F', H', I', g', x'⟩

theorem rcTupEq (h : EqB X G cl n m) {A : Around} (sb : Sub X (m + 1) A) (I : Inv X pins σ H s) (g : Gd G F ca μ H) {xs ys : List D} {a b : Addr} {vs ws : List V} (ha : SqT X.K H a vs) (hb : SqT X.K H b ws) (r : Rps G F ca xs vs) (r2 : Rps G F ca ys ws) {c : Bool}
    (hq : allEq (eqv G.T cl μ n) xs ys = some c) : wpAny (model X.prog X.w) A (richCompare .Eq (.ref a) (.ref b)) (fun q s' => q = .bool (c != false) ∧ Aft X G pins σ F H ca μ s') X.xe s := by
  obtain ⟨its, v1, t1, _⟩ := I.tuple ha
  obtain ⟨its2, v2, t2, _⟩ := I.tuple hb
  obtain ⟨⟨cls, dd, data, sl⟩, ho, hc, n1, hd⟩ := t1
  obtain ⟨⟨cls2, dd2, data2, sl2⟩, ho2, hc2, n2, hd2⟩ := t2
  simp only at hc hd hc2 hd2
  subst hc hd hc2 hd2
  have z1 : xs.length = its.toArray.size := by rw [List.size_toArray, r.length, v1.length]
  have z2 : ys.length = its2.toArray.size := by rw [List.size_toArray, r2.length, v2.length]
  refine wpAny_richCompare_same_room (op := .Eq) ⟨_, ho, rfl⟩ ⟨_, ho2, rfl⟩ PySem.F.slot_tuple_eq (GQ.call_here PySem.F.slot_tuple_eq ⟨_, ho, rfl⟩ PySem.F.entry_tuple_eq (PySem.F.args_tuple_eq_2 _ _) ?_) sb.room.units0
  refine SdQ.tup_eq (R := wants (fun v s' => v ≠ .notImplemented ∧ (v = .bool (c != false) ∧ Aft X G pins σ F H ca μ s')) X.xe) (J := fun i s' => Aft X G pins σ F H ca μ s' ∧ allEq (eqv G.T cl μ n) (xs.drop i) (ys.drop i) = some c) ⟨fun i h1 h2 s' q => ?_, fun s' i q hi h1 h2 => ?_⟩ ho ho2 ⟨Aft.rfl' I g, by simpa using hq⟩
  · refine wpAny_mono (turnB h sb g r r2 v1 v2 h1 h2 q) (fun e s2 q2 => ?_) fun _ _ x => x
    obtain ⟨q3, q4⟩ := q2
    cases e with
    | true => exact ⟨q3, by simpa using q4⟩
    | false =>
      have q4 : c = false := by simpa using q4
      subst q4
      exact ⟨(fun x => nomatch x), rfl, q3⟩
  · have := allEq_fin q.2 (by omega) (by omega) (by omega)
    rw [z1, z2] at this
    subst this
    exact ⟨(fun x => nomatch x), by simp, q.1⟩
theorem rcLstEq (h : EqB X G cl n m) {A : Around} (sb : Sub X (m + 1) A) (I : Inv X pins σ H s) (g : Gd G F ca μ H) {xs ys : List D} {a b : Addr} {vs ws : List V} (ha : H a = some (.lst vs)) (hb : H b = some (.lst ws)) (r : Rps G F ca xs vs) (r2 : Rps G F ca ys ws) {c : Bool}
    (hq : (if xs.length = ys.length then allEq (eqv G.T cl μ n) xs ys else some false) = some c) : wpAny (model X.prog X.w) A (richCompare .Eq (.ref a) (.ref b)) (fun q s' => q = .bool (c != false) ∧ Aft X G pins σ F H ca μ s') X.xe s := by
  obtain ⟨_, its, n1, v1, e1⟩ := I.hok _ _ ha
  obtain ⟨_, its2, n2, v2, e2⟩ := I.hok _ _ hb
  have z1 : its.toArray.size = xs.length := by rw [List.size_toArray, r.length, v1.length]
  have z2 : its2.toArray.size = ys.length := by rw [List.size_toArray, r2.length, v2.length]
  have at_ : ∀ s', Aft X G pins σ F H ca μ s' → ∃ (us us2 : List Value) (k1 k2 : Nat), Vals vs us ∧ Vals ws us2 ∧ s'.heap.get? a = some { cls := .type "list", data := .seq us.toArray k1 } ∧ s'.heap.get? b = some { cls := .type "list", data := .seq us2.toArray k2 } := by
    intro s' q
    obtain ⟨F1, H1, I1, g1, x1⟩ := q
    obtain ⟨_, us, k1, w1, f1⟩ := I1.hok _ _ (x1.all g ha)
    obtain ⟨_, us2, k2, w2, f2⟩ := I1.hok _ _ (x1.all g hb)
    exact ⟨us, us2, k1, k2, w1, w2, f1, f2⟩
  refine wpAny_richCompare_same_room (op := .Eq) ⟨_, e1, rfl⟩ ⟨_, e2, rfl⟩ PySem.F.slot_list_eq (GQ.call_here PySem.F.slot_list_eq ⟨_, e1, rfl⟩ PySem.F.entry_list_eq (PySem.F.args_list_eq_2 _ _) ?_) sb.room.units0
  refine SdQ.lst_eq (R := wants (fun v s' => v ≠ .notImplemented ∧ (v = .bool (c != false) ∧ Aft X G pins σ F H ca μ s')) X.xe) (J := fun i s' => Aft X G pins σ F H ca μ s' ∧ allEq (eqv G.T cl μ n) (xs.drop i) (ys.drop i) = some c) e1 e2 z1 z2 (fun hne => ?_) (fun heq => ?_)
  · rw [if_neg hne] at hq
    cases hq
    exact ⟨(fun x => nomatch x), rfl, Aft.rfl' I g⟩
  · rw [if_pos heq] at hq
    refine ⟨⟨fun i s' q => ?_, fun s' q => ?_⟩, Aft.rfl' I g, by simpa using hq⟩
    · obtain ⟨us, us2, k1, k2, w1, w2, f1, f2⟩ := at_ s' q.1
      refine ⟨us.toArray, us2.toArray, k1, k2, f1, f2, by rw [List.size_toArray, r.length, w1.length], by rw [List.size_toArray, heq, r2.length, w2.length], fun h1 h2 => ?_⟩
      refine wpAny_mono (turnB h sb g r r2 w1 w2 h1 h2 q) (fun e s2 q2 => ?_) fun _ _ x => x
      obtain ⟨q3, q4⟩ := q2
      cases e with
      | true => exact ⟨q3, by simpa using q4⟩
      | false =>
        have q4 : c = false := by simpa using q4
        subst q4
        obtain ⟨vs', vs2', k1', k2', w1', w2', f1', f2'⟩ := at_ s2 q3
        exact ⟨⟨vs'.toArray, vs2'.toArray, k1', k2', f1', f2', by rw [List.size_toArray, r.length, w1'.length], by rw [List.size_toArray, heq, r2.length, w2'.length]⟩, (fun x => nomatch x), rfl, q3⟩
    · have := allEq_fin q.2 (.inl (Nat.le_refl _)) (Nat.le_refl _) (by omega)
      rw [heq] at this
      have : c = true := by simpa using this
      subst this
      exact ⟨(fun x => nomatch x), rfl, q.1⟩

theorem rcTupNotEq (h : EqB X G cl n m) {A : Around} (sb : Sub X (m + 1) A) (I : Inv X pins σ H s) (g : Gd G F ca μ H) {xs ys : List D} {a b : Addr} {vs ws : List V} (ha : SqT X.K H a vs) (hb : SqT X.K H b ws) (r : Rps G F ca xs vs) (r2 : Rps G F ca ys ws) {c : Bool}
    (hq : allEq (eqv G.T cl μ n) xs ys = some c) : wpAny (model X.prog X.w) A (richCompare .NotEq (.ref a) (.ref b)) (fun q s' => q = .bool (c != true) ∧ Aft X G pins σ F H ca μ s') X.xe s := by
  obtain ⟨its, v1, t1, _⟩ := I.tuple ha
  obtain ⟨its2, v2, t2, _⟩ := I.tuple hb
  obtain ⟨⟨cls, dd, data, sl⟩, ho, hc, n1, hd⟩ := t1
  obtain ⟨⟨cls2, dd2, data2, sl2⟩, ho2, hc2, n2, hd2⟩ := t2
  simp only at hc hd hc2 hd2
  subst hc hd hc2 hd2
  have z1 : xs.length = its.toArray.size := by rw [List.size_toArray, r.length, v1.length]
  have z2 : ys.length = its2.toArray.size := by rw [List.size_toArray, r2.length, v2.length]
  refine wpAny_richCompare_same_room (op := .NotEq) ⟨_, ho, rfl⟩ ⟨_, ho2, rfl⟩ PySem.F.slot_tuple_ne (GQ.call_here PySem.F.slot_tuple_ne ⟨_, ho, rfl⟩ PySem.F.entry_tuple_ne (PySem.F.args_tuple_ne_2 _ _) ?_) sb.room.units0
  refine SdQ.tup_ne (R := wants (fun v s' => v ≠ .notImplemented ∧ (v = .bool (c != true) ∧ Aft X G pins σ F H ca μ s')) X.xe) (J := fun i s' => Aft X G pins σ F H ca μ s' ∧ allEq (eqv G.T cl μ n) (xs.drop i) (ys.drop i) = some c) ⟨fun i h1 h2 s' q => ?_, fun s' i q hi h1 h2 => ?_⟩ ho ho2 ⟨Aft.rfl' I g, by simpa using hq⟩
  · refine wpAny_mono (turnB h sb g r r2 v1 v2 h1 h2 q) (fun e s2 q2 => ?_) fun _ _ x => x
    obtain ⟨q3, q4⟩ := q2
    cases e with
    | true => exact ⟨q3, by simpa using q4⟩
    | false =>
      have q4 : c = false := by simpa using q4
      subst q4
      exact ⟨(fun x => nomatch x), rfl, q3⟩
  · have := allEq_fin q.2 (by omega) (by omega) (by omega)
    rw [z1, z2] at this
    subst this
    exact ⟨(fun x => nomatch x), by simp, q.1⟩
theorem rcLstNotEq (h : EqB X G cl n m) {A : Around} (sb : Sub X (m + 1) A) (I : Inv X pins σ H s) (g : Gd G F ca μ H) {xs ys : List D} {a b : Addr} {vs ws : List V} (ha : H a = some (.lst vs)) (hb : H b = some (.lst ws)) (r : Rps G F ca xs vs) (r2 : Rps G F ca ys ws) {c : Bool}
    (hq : (if xs.length = ys.length then allEq (eqv G.T cl μ n) xs ys else some false) = some c) : wpAny (model X.prog X.w) A (richCompare .NotEq (.ref a) (.ref b)) (fun q s' => q = .bool (c != true) ∧ Aft X G pins σ F H ca μ s') X.xe s := by
  obtain ⟨_, its, n1, v1, e1⟩ := I.hok _ _ ha
  obtain ⟨_, its2, n2, v2, e2⟩ := I.hok _ _ hb
  have z1 : its.toArray.size = xs.length := by rw [List.size_toArray, r.length, v1.length]
  have z2 : its2.toArray.size = ys.length := by rw [List.size_toArray, r2.length, v2.length]
  have at_ : ∀ s', Aft X G pins σ F H ca μ s' → ∃ (us us2 : List Value) (k1 k2 : Nat), Vals vs us ∧ Vals ws us2 ∧ s'.heap.get? a = some { cls := .type "list", data := .seq us.toArray k1 } ∧ s'.heap.get? b = some { cls := .type "list", data := .seq us2.toArray k2 } := by
    intro s' q
    obtain ⟨F1, H1, I1, g1, x1⟩ := q
    obtain ⟨_, us, k1, w1, f1⟩ := I1.hok _ _ (x1.all g ha)
    obtain ⟨_, us2, k2, w2, f2⟩ := I1.hok _ _ (x1.all g hb)
    exact ⟨us, us2, k1, k2, w1, w2, f1, f2⟩
  refine wpAny_richCompare_same_room (op := .NotEq) ⟨_, e1, rfl⟩ ⟨_, e2, rfl⟩ PySem.F.slot_list_ne (GQ.call_here PySem.F.slot_list_ne ⟨_, e1, rfl⟩ PySem.F.entry_list_ne (PySem.F.args_list_ne_2 _ _) ?_) sb.room.units0
  refine SdQ.lst_ne (R := wants (fun v s' => v ≠ .notImplemented ∧ (v = .bool (c != true) ∧ Aft X G pins σ F H ca μ s')) X.xe) (J := fun i s' => Aft X G pins σ F H ca μ s' ∧ allEq (eqv G.T cl μ n) (xs.drop i) (ys.drop i) = some c) e1 e2 z1 z2 (fun hne => ?_) (fun heq => ?_)
  · rw [if_neg hne] at hq
    cases hq
    exact ⟨(fun x => nomatch x), rfl, Aft.rfl' I g⟩
  · rw [if_pos heq] at hq
    refine ⟨⟨fun i s' q => ?_, fun s' q => ?_⟩, Aft.rfl' I g, by simpa using hq⟩
    · obtain ⟨us, us2, k1, k2, w1, w2, f1, f2⟩ := at_ s' q.1
      refine ⟨us.toArray, us2.toArray, k1, k2, f1, f2, by rw [List.size_toArray, r.length, w1.length], by rw [List.size_toArray, heq, r2.length, w2.length], fun h1 h2 => ?_⟩
      refine wpAny_mono (turnB h sb g r r2 w1 w2 h1 h2 q) (fun e s2 q2 => ?_) fun _ _ x => x
      obtain ⟨q3, q4⟩ := q2
      cases e with
      | true => exact ⟨q3, by simpa using q4⟩
      | false =>
        have q4 : c = false := by simpa using q4
        subst q4
        obtain ⟨vs', vs2', k1', k2', w1', w2', f1', f2'⟩ := at_ s2 q3
        exact ⟨⟨vs'.toArray, vs2'.toArray, k1', k2', f1', f2', by rw [List.size_toArray, r.length, w1'.length], by rw [List.size_toArray, heq, r2.length, w2'.length]⟩, (fun x => nomatch x), rfl, q3⟩
    · have := allEq_fin q.2 (.inl (Nat.le_refl _)) (Nat.le_refl _) (by omega)
      rw [heq] at this
      have : c = true := by simpa using this
      subst this
      exact ⟨(fun x => nomatch x), rfl, q.1⟩

theorem rcEq_of (hK : X.K = G.K) (hn : G.nm 0 = "__eq__") (hF : Fns X G cl k) (hk : Kls X G) (hx : ∀ σ, PassesAt (L2.CX X.prog X.w) X σ (WE W σ)) (hm : k ≤ m) (h : EqB X G cl n m) : RcB .Eq false X G cl (n + 1) (m + 1) := by
  intro A pins s σ H x y u v F ca μ d e b sb I rx ry g rd re hf hq
  rcases eqv_shape hq with ⟨fd, fe⟩ | ⟨xs, ys, rfl, rfl, ha⟩ | ⟨xs, ys, i1, i2, ha⟩ | ⟨c, fs, gs, f, μ1, rfl, rfl, hr, hc, _⟩ | ⟨c, fs, κ, f, μ1, rfl, k1, hr, hc, rfl⟩ | ⟨κ, κ', k1, k2, k3, rfl⟩
  · rw [fd, fe] at hf; cases hf
  · cases rd with
    | tup s1 r1 =>
      cases re with
      | tup s2 r2 =>
        cases rx
        cases ry
        exact rcTupEq h sb I g (by rw [hK]; exact sqT_le s1 g.le) (by rw [hK]; exact sqT_le s2 g.le) r1 r2 ha
  · obtain ⟨a, vs, rfl, e1, r1⟩ := list_at g rd i1
    obtain ⟨a', vs', rfl, e2, r2⟩ := list_at g re i2
    cases rx
    cases ry
    exact rcLstEq h sb I g e1 e2 r1 r2 ha
  · obtain ⟨a, c1, C, rfl, i1, l1⟩ := recv_ins g rd hr
    have rr : recvM G.T 0 (.ins c gs) μ = some f := by simpa only [recvM] using hr
    obtain ⟨a', c2, C2, rfl, i2, l2⟩ := recv_ins g re rr
    obtain ⟨dx, fs1, h1⟩ : ∃ dx fs, H a = some (.ins (G.cad c) dx fs) := by
      cases rd with
      | ins _ _ hf' _ => exact ⟨_, _, g.le _ _ hf'⟩
    obtain ⟨dx2, fs2, h2⟩ : ∃ dx fs, H a' = some (.ins (G.cad c) dx fs) := by
      cases re with
      | ins _ _ hf' _ => exact ⟨_, _, g.le _ _ hf'⟩
    obtain ⟨C0, hc0, hex, hl0⟩ : ∃ C, G.T.cls[c]? = some C ∧ C.exc = false ∧ lookN 0 C.meths = some f := by
      simp only [recvM] at hr
      split at hr
      · rename_i C0 e0
        split at hr
        · cases hr
        · rename_i e3
          exact ⟨C0, e0, by simpa using e3, hr⟩
      · cases hr
    have ok := hk c C0 hc0 hex
    have M := ok.meth _ _ hl0
    cases rx
    cases ry
    obtain ⟨mA, J, _⟩ := ins_get I.hok h1
    obtain ⟨mB, J', _⟩ := ins_get I.hok h2
    obtain ⟨od, J, _⟩ := J.look
    obtain ⟨od', J', _⟩ := J'.look
    obtain ⟨_, hF0⟩ := I.fr
    refine PySem.W.cmp_K (op := .Eq) (tb := .ref (G.cad c)) sb.room.units0 hF0 I.ok.mod.kin J J'.type (by simp [PySem.W.notFirst]) (by have q := M.at_; rw [hn] at q; exact q) M.fn (wpAny_mono (ownEq hF hx (sb.mono (by omega)) I g (x := .ref _) (y := .ref _) rfl rfl rd re hc) (fun q s' hh => ?_) fun _ _ x => x)
    obtain ⟨rfl, h2⟩ := hh
    exact ⟨by simp, h2⟩
  · obtain ⟨C0, hc0, hex, hl0⟩ : ∃ C, G.T.cls[c]? = some C ∧ C.exc = false ∧ lookN 0 C.meths = some f := by
      simp only [recvM] at hr
      split at hr
      · rename_i C0 e0
        split at hr
        · cases hr
        · rename_i e3
          exact ⟨C0, e0, by simpa using e3, hr⟩
      · cases hr
    obtain ⟨a, dx, fs1, rfl, h1⟩ : ∃ a dx fs, x = .ref a ∧ H a = some (.ins (G.cad c) dx fs) := by
      cases rd with
      | ins _ _ hf' _ => exact ⟨_, _, _, rfl, g.le _ _ hf'⟩
    have ok := hk c C0 hc0 hex
    have M := ok.meth _ _ hl0
    have kk := kAt hK I g re ry k1
    cases rx
    obtain ⟨mA, J, _⟩ := ins_get I.hok h1
    obtain ⟨od, J, _⟩ := J.look
    obtain ⟨_, hF0⟩ := I.fr
    refine PySem.W.cmp_K (op := .Eq) (tb := .type (kdT κ)) sb.room.units0 hF0 I.ok.mod.kin J (KAt.looks kk) (kd_first _ _ κ) (by have q := M.at_; rw [hn] at q; exact q) M.fn (wpAny_mono (ownEq hF hx (sb.mono (by omega)) I g (x := .ref _) rfl ry rd re hc) (fun q s' hh => ?_) fun _ _ x => x)
    obtain ⟨rfl, h2⟩ := hh
    exact ⟨by simp, h2⟩
  · exact mixEq (kAt hK I g rd rx k1) (kAt hK I g re ry k2) k3 sb.room.units0 X.prog X.w X.xe _ ⟨by simp, Aft.rfl' I g⟩

theorem rcNotEq_of (hK : X.K = G.K) (hn : G.nm 0 = "__eq__") (hF : Fns X G cl k) (hk : Kls X G) (hx : ∀ σ, PassesAt (L2.CX X.prog X.w) X σ (WE W σ)) (hm : k ≤ m) (h : EqB X G cl n m) : RcB .NotEq true X G cl (n + 1) (m + 1) := by
  intro A pins s σ H x y u v F ca μ d e b sb I rx ry g rd re hf hq
  rcases eqv_shape hq with ⟨fd, fe⟩ | ⟨xs, ys, rfl, rfl, ha⟩ | ⟨xs, ys, i1, i2, ha⟩ | ⟨c, fs, gs, f, μ1, rfl, rfl, hr, hc, _⟩ | ⟨c, fs, κ, f, μ1, rfl, k1, hr, hc, rfl⟩ | ⟨κ, κ', k1, k2, k3, rfl⟩
  · rw [fd, fe] at hf; cases hf
  · cases rd with
    | tup s1 r1 =>
      cases re with
      | tup s2 r2 =>
        cases rx
        cases ry
        exact rcTupNotEq h sb I g (by rw [hK]; exact sqT_le s1 g.le) (by rw [hK]; exact sqT_le s2 g.le) r1 r2 ha
  · obtain ⟨a, vs, rfl, e1, r1⟩ := list_at g rd i1
    obtain ⟨a', vs', rfl, e2, r2⟩ := list_at g re i2
    cases rx
    cases ry
    exact rcLstNotEq h sb I g e1 e2 r1 r2 ha
  · obtain ⟨a, c1, C, rfl, i1, l1⟩ := recv_ins g rd hr
    have rr : recvM G.T 0 (.ins c gs) μ = some f := by simpa only [recvM] using hr
    obtain ⟨a', c2, C2, rfl, i2, l2⟩ := recv_ins g re rr
    obtain ⟨dx, fs1, h1⟩ : ∃ dx fs, H a = some (.ins (G.cad c) dx fs) := by
      cases rd with
      | ins _ _ hf' _ => exact ⟨_, _, g.le _ _ hf'⟩
    obtain ⟨dx2, fs2, h2⟩ : ∃ dx fs, H a' = some (.ins (G.cad c) dx fs) := by
      cases re with
      | ins _ _ hf' _ => exact ⟨_, _, g.le _ _ hf'⟩
    obtain ⟨C0, hc0, hex, hl0⟩ : ∃ C, G.T.cls[c]? = some C ∧ C.exc = false ∧ lookN 0 C.meths = some f := by
      simp only [recvM] at hr
      split at hr
      · rename_i C0 e0
        split at hr
        · cases hr
        · rename_i e3
          exact ⟨C0, e0, by simpa using e3, hr⟩
      · cases hr
    have ok := hk c C0 hc0 hex
    have M := ok.meth _ _ hl0
    cases rx
    cases ry
    obtain ⟨mA, J, _⟩ := ins_get I.hok h1
    obtain ⟨mB, J', _⟩ := ins_get I.hok h2
    obtain ⟨od, J, _⟩ := J.look
    obtain ⟨od', J', _⟩ := J'.look
    obtain ⟨_, hF0⟩ := I.fr
    refine SdQ.ne_K (tb := .ref (G.cad c)) (by have := sb.room.units; omega) I.kIn J J'.type (by simp [PySem.W.notFirst]) ok.ob ok.ne (by have q := M.at_; rw [hn] at q; exact q) M.fn (wpAny_mono (ownEq hF hx (sb.in1.mono (by omega)) I g (x := .ref _) (y := .ref _) rfl rfl rd re hc) (fun q s' hh => ?_) fun _ _ x => x)
    obtain ⟨rfl, h2⟩ := hh
    exact ⟨b, rfl, by simp, h2⟩
  · obtain ⟨C0, hc0, hex, hl0⟩ : ∃ C, G.T.cls[c]? = some C ∧ C.exc = false ∧ lookN 0 C.meths = some f := by
      simp only [recvM] at hr
      split at hr
      · rename_i C0 e0
        split at hr
        · cases hr
        · rename_i e3
          exact ⟨C0, e0, by simpa using e3, hr⟩
      · cases hr
    obtain ⟨a, dx, fs1, rfl, h1⟩ : ∃ a dx fs, x = .ref a ∧ H a = some (.ins (G.cad c) dx fs) := by
      cases rd with
      | ins _ _ hf' _ => exact ⟨_, _, _, rfl, g.le _ _ hf'⟩
    have ok := hk c C0 hc0 hex
    have M := ok.meth _ _ hl0
    have kk := kAt hK I g re ry k1
    cases rx
    obtain ⟨mA, J, _⟩ := ins_get I.hok h1
    obtain ⟨od, J, _⟩ := J.look
    obtain ⟨_, hF0⟩ := I.fr
    refine SdQ.ne_K (tb := .type (kdT κ)) (by have := sb.room.units; omega) I.kIn J (KAt.looks kk) (kd_first _ _ κ) ok.ob ok.ne (by have q := M.at_; rw [hn] at q; exact q) M.fn (wpAny_mono (ownEq hF hx (sb.in1.mono (by omega)) I g (x := .ref _) rfl ry rd re hc) (fun q s' hh => ?_) fun _ _ x => x)
    obtain ⟨rfl, h2⟩ := hh
    exact ⟨false, rfl, by simp, h2⟩
  · exact mixNe (kAt hK I g rd rx k1) (kAt hK I g re ry k2) k3 sb.room.units0 X.prog X.w X.xe _ ⟨by simp, Aft.rfl' I g⟩

theorem eqB_all (hK : X.K = G.K) (hn : G.nm 0 = "__eq__") (hF : Fns X G cl k) (hk : Kls X G) (hx : ∀ σ, PassesAt (L2.CX X.prog X.w) X σ (WE W σ)) : ∀ n, EqB X G cl n (k + n)
  | 0 => fun A pins s σ H x y u v F ca μ d e b sb I rx ry g rd re hq => by simp [eqv] at hq
  | n + 1 => eqB_of hK (rcEq_of hK hn hF hk hx (Nat.le_add_right _ _) (eqB_all hK hn hF hk hx n))
end
end Sd

set_option Elab.async false
set_option linter.all false
set_option maxRecDepth 100000
set_option maxHeartbeats 4000000
/-! Sd8: x in a list or a tuple, l.index(x): with an == that makes objects. -/
namespace SdQ
open PySem PySem.SeqAt GQ
open AutoSeq1 (wpAny_loadPart')
open MeetsSeq MeetsSeq2 MeetsSeq3 SeqRoads2
section
variable {prog : Program} {w : World} {A : Around} {R : Result → Shared → Prop}
/-- looking for x: J i before the i-th item -/
structure Seeks (prog : Program) (w : World) (A : Around) (E : Value → Shared → Prop) (xs : Array Value) (x : Value) (J : Nat → Shared → Prop) (Z : Bool → Shared → Prop) : Prop where
  turn : ∀ i (h1 : i < xs.size) s, J i s → wpAny (model prog w) A.in1 (eqBool xs[i] x) (fun r s' => if r = true then Z true s' else J (i + 1) s') E s
  fin : ∀ s, J xs.size s → Z false s
theorem tup_in {l : Addr} {xs : Array Value} {x : Value} {n : Nat} {dd : Option Addr} {sl : Array (Option Value)} {J : Nat → Shared → Prop}
    (T : Seeks prog w A (fun e s' => R (.error e) s') xs x J fun r s' => R (.ok (.ret (.bool r))) s') {s : Shared} (hl : s.heap.get? l = some { cls := .type "tuple", dict := dd, data := .seq xs n, slots := sl }) (h0 : J 0 s) :
    wpAny (model prog w) A.in1 (Builtin.«tuple.__contains__» ⟨[.ref l, x], []⟩) (FinOf prog w A R) (fun e s' => R (.error e) s') s := by
  have j0 := h0
  obtain ⟨hp, g, d, tk, os⟩ := s
  wp_walk using wpAny_loadPart' hl, wpAny_forIn_array _ (fun rest b s' => b.1 = none ∧ ∃ i, rest = xs.toList.drop i ∧ i ≤ xs.size ∧ J i s') _
  case turn =>
    rintro y rest b s' ⟨_, i, hz, hi, hJ⟩
    have hlt : i < xs.toList.length := by
      rcases Nat.lt_or_ge i xs.toList.length with h' | h'
      · exact h'
      · rw [List.drop_of_length_le h'] at hz; cases hz
    have h1 : i < xs.size := by simpa using hlt
    rw [List.drop_eq_getElem_cons hlt] at hz
    injection hz with hy hrest
    have hy : y = xs[i] := by simpa using hy
    subst hy
    refine wpAny_bind (wpAny_mono (T.turn i h1 s' hJ) (fun r s2 q2 => ?_) fun _ _ x => x)
    cases r with
    | true =>
      wp_walk
      simpa using q2
    | false =>
      wp_walk
      exact ⟨rfl, i + 1, hrest, h1, by simpa using q2⟩
  case fin =>
    rintro ⟨q1, q2⟩ s' ⟨hq, i, hz, hi, hJ⟩
    simp only at hq
    subst hq
    have hge : xs.size ≤ i := by
      rcases Nat.lt_or_ge i xs.toList.length with h' | h'
      · rw [List.drop_eq_getElem_cons h'] at hz; cases hz
      · simpa using h'
    have hR : R (.ok (.ret (.bool false))) s' := T.fin s' (by rw [show xs.size = i by omega]; exact hJ)
    wp_walk
    simpa using hR
  case h =>
    exact ⟨rfl, 0, rfl, Nat.zero_le _, j0⟩
structure SeeksL (prog : Program) (w : World) (A : Around) (E : Value → Shared → Prop) (l : Addr) (x : Value) (J : Nat → Shared → Prop) (N : Nat) (Z : Nat → Bool → Shared → Prop) : Prop where
  turn : ∀ i s, J i s → ∃ (xs : Array Value) (n : Nat) (dd : Option Addr) (sl : Array (Option Value)), s.heap.get? l = some { cls := .type "list", dict := dd, data := .seq xs n, slots := sl } ∧ xs.size = N ∧
    ∀ (h1 : i < xs.size), wpAny (model prog w) A.in1 (eqBool xs[i] x) (fun r s' => if r = true then Z i true s' else J (i + 1) s') E s
  fin : ∀ s, J N s → Z N false s
theorem lst_in_loop {l : Addr} {x : Value} {N : Nat} {J : Nat → Shared → Prop} (T : SeeksL prog w A (fun e s' => R (.error e) s') l x J N fun _ r s' => R (.ok (.ret (.bool r))) s') (k : Nat) :
    ∀ i : Nat, N - i = k → i ≤ N → ∀ s, J i s → wpAny (model prog w) A.in1 (Builtin.«list.__contains__.loop» ⟨[.ref l, x, rawInt i], []⟩) (FinOf prog w A R) (fun e s' => R (.error e) s') s := by
  induction k with
  | zero =>
    intro i hk hi s h
    obtain ⟨xs, n, dd, sl, hl, z1, _⟩ := T.turn _ _ h
    have hiN : i = N := by omega
    have hR : R (.ok (.ret (.bool false))) s := T.fin s (hiN ▸ h)
    obtain ⟨hp, g, d, tk, os⟩ := s
    have e1 : xs[((i : Nat) : Int).toNat]? = none := by simp; omega
    wp_walk using wpAny_loadPart' hl
    rw [e1]
    wp_walk
    exact hR
  | succ k ih =>
    intro i hk hi s h
    obtain ⟨xs, n, dd, sl, hl, z1, turn⟩ := T.turn _ _ h
    have l1 : i < xs.size := by omega
    have ht := turn l1
    obtain ⟨hp, g, d, tk, os⟩ := s
    have e1 : xs[((i : Nat) : Int).toNat]? = some xs[i] := by simp [l1]
    have ec : ((i : Int) + 1) = ((i + 1 : Nat) : Int) := by omega
    wp_walk using wpAny_loadPart' hl
    rw [e1]
    refine wpAny_bind (wpAny_mono ht (fun r s2 q2 => ?_) fun _ _ x => x)
    cases r with
    | true =>
      wp_walk
      simpa using q2
    | false =>
      have q2 : J (i + 1) s2 := by simpa using q2
      wp_walk
      rw [ec]
      exact ⟨plainId_quiet plain_contains_loop _, codeAny_builtin entry_contains_loop (by
        rw [Around.under_plainId plain_contains_loop _]
        exact ih (i + 1) (by omega) (by omega) s2 q2)⟩
theorem lst_in {l : Addr} {x : Value} {N : Nat} {J : Nat → Shared → Prop} (T : SeeksL prog w A (fun e s' => R (.error e) s') l x J N fun _ r s' => R (.ok (.ret (.bool r))) s') {s : Shared} (h : J 0 s) :
    wpAny (model prog w) A.in1 (Builtin.«list.__contains__» ⟨[.ref l, x], []⟩) (FinOf prog w A R) (fun e s' => R (.error e) s') s := by
  obtain ⟨xs, n, dd, sl, hl, z1, _⟩ := T.turn _ _ h
  have h0 := h
  obtain ⟨hp, g, d, tk, os⟩ := s
  wp_walk using wpAny_loadPart' hl
  exact ⟨plainId_quiet plain_contains_loop _, codeAny_builtin entry_contains_loop (by
    rw [Around.under_plainId plain_contains_loop _]
    exact lst_in_loop T _ 0 rfl (Nat.zero_le _) _ h0)⟩
end
end SdQ

namespace Sd
open PySem PySem.Spec PyProof.Rows L2 Pi
section
variable {G : Geo} {cl : Cll} {lo n m k : Nat} {F H : Hp} {ca : List Addr} {μ : Mu} {σ : L2.St} {W : WX} {X : Cx} {pins : List (Addr × Obj)} {s : Shared}
theorem turnIn (h : EqB X G cl n m) {A : Around} (sb : Sub X (m + 1) A) (g : Gd G F ca μ H) {xs : List D} {d : D} {vs : List V} {x : V} {u : Value} (r : Rps G F ca xs vs) (rd : Rp G F ca d x) (ru : RelV x u) {b : Bool} {i : Nat} {us : List Value} (hv : Vals vs us)
    (h1 : i < us.toArray.size) {s' : Shared} (l : Aft X G pins σ F H ca μ s' ∧ inL (eqv G.T cl μ n) d (xs.drop i) = some b) :
    wpAny (model X.prog X.w) A.in1 (eqBool us.toArray[i] u) (fun q s2 => Aft X G pins σ F H ca μ s2 ∧ if q = true then b = true else inL (eqv G.T cl μ n) d (xs.drop (i + 1)) = some b) X.xe s' := by
  obtain ⟨⟨F1, H1, I1, g1, x1⟩, ha⟩ := l
  have r' := Rps.mono x1.fle x1.pre r
  have k1 : i < us.length := by simpa using h1
  have l1 : i < vs.length := by rw [hv.length]; exact k1
  have d1 : i < xs.length := by rw [r.length]; exact l1
  obtain ⟨u1, hu, ru1⟩ := hv.get (List.getElem?_eq_getElem l1)
  have e1 : us.toArray[i] = u1 := by rw [List.getElem?_eq_getElem k1] at hu; simpa using hu
  rw [e1]
  obtain ⟨v1, q1, t1⟩ := r'.get (List.getElem?_eq_getElem d1)
  rw [List.getElem?_eq_getElem l1] at q1
  cases q1
  rw [List.drop_eq_getElem_cons d1] at ha
  simp only [inL] at ha
  cases e : eqv G.T cl μ n xs[i] d with
  | none => rw [e] at ha; cases ha
  | some c =>
    rw [e] at ha
    refine wpAny_mono (h A.in1 pins s' σ H1 _ _ u1 u F1 ca μ _ _ c sb.in1 I1 ru1 ru g1 t1 (Rp.mono x1.fle x1.pre rd) e) (fun q s2 hh => ?_) fun _ _ x => x
    obtain ⟨rfl, F2, H2, I2, g2, x2⟩ := hh
    refine ⟨⟨F2, H2, I2, g2, x1.trans x2⟩, ?_⟩
    cases q with
    | true => simpa using ha.symm
    | false => simpa using ha
/-- the kit's reading of a list's object -/
theorem list_obj (I : Inv X pins σ H s) {a : Addr} {vs : List V} (hs : SqL X.K H a vs) : ∃ (us : List Value) (n1 : Nat) (dd : Option Addr) (sl : Array (Option Value)), Vals vs us ∧ s.heap.get? a = some { cls := .type "list", dict := dd, data := .seq us.toArray n1, slots := sl } := by
  obtain ⟨its, v1, ⟨⟨cls, dd, data, sls⟩, n1, ho, hc, hdn, hdt⟩, _⟩ := I.list hs
  simp only at hc hdt
  subst hc hdt
  exact ⟨its, _, dd, sls, v1, ho⟩
theorem tup_obj (I : Inv X pins σ H s) {a : Addr} {vs : List V} (hs : SqT X.K H a vs) : ∃ (us : List Value) (n1 : Nat) (dd : Option Addr) (sl : Array (Option Value)), Vals vs us ∧ s.heap.get? a = some { cls := .type "tuple", dict := dd, data := .seq us.toArray n1, slots := sl } := by
  obtain ⟨its, v1, ⟨⟨cls, dd, data, sl⟩, ho, hc, n1, hd⟩, _⟩ := I.tuple hs
  simp only at hc hd
  subst hc hd
  exact ⟨its, _, dd, sl, v1, ho⟩
/-- x in l -/
theorem in_core (h : EqB X G cl n m) {A : Around} (sb : Sub X (m + 1) A) (I : Inv X pins σ H s) (g : Gd G F ca μ H) {xs : List D} {d : D} {vs : List V} {x : V} {u : Value} {a : Addr} (r : Rps G F ca xs vs) (rd : Rp G F ca d x) (ru : RelV x u)
    (hs : SqL X.K H a vs ∨ SqT X.K H a vs) {b : Bool} (hq : inL (eqv G.T cl μ n) d xs = some b) :
    wpAny (model X.prog X.w) A (contains (.ref a) u) (fun v s' => v = b ∧ Aft X G pins σ F H ca μ s') X.xe s := by
  rcases hs with hs | hs
  · obtain ⟨us, n1, dd, sl, v1, ho⟩ := list_obj I hs
    refine wpAny_contains_slot ⟨_, ho, rfl⟩ PySem.F.slot_list_contains (wpAny_mono (GQ.call_here (Q := fun v s' => v = .bool b ∧ Aft X G pins σ F H ca μ s') PySem.F.slot_list_contains ⟨_, ho, rfl⟩ PySem.F.entry_list_contains (PySem.F.args_list_contains_2 _ _) ?_) (fun v s' q => ?_) fun _ _ e => e)
    · refine SdQ.lst_in (N := us.length) (J := fun i s' => Aft X G pins σ F H ca μ s' ∧ inL (eqv G.T cl μ n) d (xs.drop i) = some b) ⟨fun i s' q => ?_, fun s' q => ?_⟩ ⟨Aft.rfl' I g, by simpa using hq⟩
      · obtain ⟨⟨F1, H1, I1, g1, x1⟩, q2⟩ := id q
        obtain ⟨us1, n2, dd1, sl1, v2, ho1⟩ := list_obj I1 (sqL_le hs fun a o e => x1.all g e)
        refine ⟨us1.toArray, n2, dd1, sl1, ho1, by rw [List.size_toArray, ← v2.length, v1.length], fun h1 => ?_⟩
        refine wpAny_mono (turnIn h sb g r rd ru v2 h1 q) (fun e s2 q3 => ?_) fun _ _ x => x
        obtain ⟨q4, q5⟩ := q3
        cases e with
        | true =>
          have q5 : b = true := by simpa using q5
          subst q5
          exact ⟨rfl, q4⟩
        | false => exact ⟨q4, by simpa using q5⟩
      · obtain ⟨q1, q2⟩ := q
        rw [List.drop_of_length_le (by rw [r.length, v1.length]; exact Nat.le_refl _)] at q2
        simp only [inL] at q2
        cases q2
        exact ⟨rfl, q1⟩
    · obtain ⟨rfl, q2⟩ := q
      exact wpAny_truthy_bool ⟨rfl, q2⟩
  · obtain ⟨us, n1, dd, sl, v1, ho⟩ := tup_obj I hs
    refine wpAny_contains_slot ⟨_, ho, rfl⟩ PySem.F.slot_tuple_contains (wpAny_mono (GQ.call_here (Q := fun v s' => v = .bool b ∧ Aft X G pins σ F H ca μ s') PySem.F.slot_tuple_contains ⟨_, ho, rfl⟩ PySem.F.entry_tuple_contains (PySem.F.args_tuple_contains_2 _ _) ?_) (fun v s' q => ?_) fun _ _ e => e)
    · refine SdQ.tup_in (J := fun i s' => Aft X G pins σ F H ca μ s' ∧ inL (eqv G.T cl μ n) d (xs.drop i) = some b) ⟨fun i h1 s' q => ?_, fun s' q => ?_⟩ ho ⟨Aft.rfl' I g, by simpa using hq⟩
      · refine wpAny_mono (turnIn h sb g r rd ru v1 h1 q) (fun e s2 q3 => ?_) fun _ _ x => x
        obtain ⟨q4, q5⟩ := q3
        cases e with
        | true =>
          have q5 : b = true := by simpa using q5
          subst q5
          exact ⟨rfl, q4⟩
        | false => exact ⟨q4, by simpa using q5⟩
      · obtain ⟨q1, q2⟩ := q
        rw [List.drop_of_length_le (by rw [r.length, v1.length, List.size_toArray]; exact Nat.le_refl _)] at q2
        simp only [inL] at q2
        cases q2
        exact ⟨rfl, q1⟩
    · obtain ⟨rfl, q2⟩ := q
      exact wpAny_truthy_bool ⟨rfl, q2⟩
end
end Sd

set_option Elab.async false
set_option linter.all false
set_option maxRecDepth 100000
set_option maxHeartbeats 4000000
/-! Sd9: operators and comparisons of the values. -/
namespace Sd
open PySem PySem.Spec PyProof.Rows L2 Pi
/-- what stands around a def's body -/
structure Wd (X : Cx) (G : Geo) (cl : Cll) (k : Nat) (W : WX) : Prop where
  hK : X.K = G.K
  hF : Fns X G cl k
  hk : Kls X G
  rm : Room (k + 7) X.A
  hx : ∀ σ, PassesAt (L2.CX X.prog X.w) X σ (WE W σ)
  n0 : G.nm 0 = "__eq__"
  n1 : G.nm 1 = PySem.dunder (Operator.Add).info.2
  n2 : G.nm 2 = PySem.dunder (Operator.Sub).info.2
  n3 : G.nm 3 = PySem.dunder (Operator.Mult).info.2
  n4 : G.nm 4 = PySem.dunder (Operator.FloorDiv).info.2
  n5 : G.nm 5 = PySem.dunder (Operator.Mod).info.2
  n6 : G.nm 6 = PySem.dunder (Operator.Pow).info.2
  n7 : G.nm 7 = "__len__"
  n8 : G.nm 8 = "__call__"
  n9 : G.nm 9 = "__neg__"
section
variable {G : Geo} {cl : Cll} {lo n m k : Nat} {F H : Hp} {ca : List Addr} {μ : Mu} {σ : L2.St} {W : WX} {X : Cx} {pins : List (Addr × Obj)} {s : Shared}
theorem Wd.eqs (w : Wd X G cl k W) (n : Nat) : EqB X G cl n (k + n) := eqB_all w.hK w.n0 w.hF w.hk w.hx n
theorem Wd.room0 (w : Wd X G cl k W) : Room k X.A := w.rm.mono (by omega)
theorem ep_aft {Q : VK} {d : D} {v : V} {u : Value} {s' : Shared} (g : Gd G F ca μ H) (q : Pk G lo (Rp G) F ca μ H (.ok d μ) σ Q W) (hl : lo ≤ μ.length) (hr : ∀ F ca, Rp G F ca d v) (ru : RelV v u) (a : Aft X G pins σ F H ca μ s') : EP X pins σ Q u s' := by
  obtain ⟨F', H', I', g', x'⟩ := a
  exact ⟨v, H', I', ru, q v F' ca H' (x'.lower hl) g' (hr _ _)⟩
theorem scal_of {d e : D} {x y : V} {b : Bool} (h : eqv G.T cl μ (n + 1) d e = some b) (r : Rp G F ca d x) (r' : Rp G F ca e y) (hf : (flatD d && flatD e) = true) : scal x y = true ∧ decide (x = y) = b := by
  rw [Bool.and_eq_true] at hf
  obtain ⟨hf, hf'⟩ := hf
  cases r <;> first | (exact absurd (show false = true from hf) Bool.false_ne_true) | skip
  all_goals
    cases r' <;> first | (exact absurd (show false = true from hf') Bool.false_ne_true) | (simp [eqv, mixV, kindD, mixK, seqK] at h; done) | (simp only [eqv, Option.some.injEq] at h; subst h; refine ⟨rfl, ?_⟩; simp; done) | (simp only [eqv, Option.some.injEq] at h; subst h; refine ⟨rfl, ?_⟩; rw [Bool.eq_iff_iff]; simp; done)
theorem c_eq (w : Wd X G cl k W) : Op2 X G lo W (compareOp .Eq) (cmpD G.T cl .eq) := by
  intro pins s σ H x y v u Q I rx ry h
  obtain ⟨F, ca, μ, d, e, hl, g, rd, re, q⟩ := h
  simp only [cmpD] at q
  cases hq : eqv G.T cl μ eqN d e with
  | none => rw [hq] at q; exact q.elim
  | some b =>
    rw [hq] at q
    cases hf : (flatD d && flatD e) with
    | true =>
      obtain ⟨s1, s2⟩ := scal_of hq rd re hf
      exact op_eq pins s σ H x y v u Q I rx ry ⟨s1, by rw [s2]; exact q.now g (.bl b)⟩
    | false =>
      refine wpAny_mono (rcEq_of (m := k + 5) w.hK w.n0 w.hF w.hk w.hx (by omega) (w.eqs 5) X.A pins s σ H x y v u F ca μ d e b ⟨w.rm.mono (by omega), rfl⟩ I rx ry g rd re hf hq) (fun r s' hh => ?_) fun _ _ x => x
      obtain ⟨rfl, ha⟩ := hh
      exact ep_aft g q hl (fun _ _ => .bl b) (by show Value.bool (b != false) = Value.bool b; simp) ha
theorem c_ne (w : Wd X G cl k W) : Op2 X G lo W (compareOp .NotEq) (cmpD G.T cl .ne) := by
  intro pins s σ H x y v u Q I rx ry h
  obtain ⟨F, ca, μ, d, e, hl, g, rd, re, q⟩ := h
  simp only [cmpD] at q
  cases hq : eqv G.T cl μ eqN d e with
  | none => rw [hq] at q; exact q.elim
  | some b =>
    rw [hq] at q
    cases hf : (flatD d && flatD e) with
    | true =>
      obtain ⟨s1, s2⟩ := scal_of hq rd re hf
      exact op_ne pins s σ H x y v u Q I rx ry ⟨s1, by rw [s2]; exact q.now g (.bl (!b))⟩
    | false =>
      refine wpAny_mono (rcNotEq_of (m := k + 5) w.hK w.n0 w.hF w.hk w.hx (by omega) (w.eqs 5) X.A pins s σ H x y v u F ca μ d e b ⟨w.rm.mono (by omega), rfl⟩ I rx ry g rd re hf hq) (fun r s' hh => ?_) fun _ _ x => x
      obtain ⟨rfl, ha⟩ := hh
      exact ep_aft g q hl (fun _ _ => .bl (!b)) (by show Value.bool (b != true) = Value.bool (!b); cases b <;> rfl) ha
theorem c_int {op : CmpOp} {f : Int → Int → Bool} {gg : D → D → Mu → Out D} (ho : OpR X (compareOp op) (rI0 fun i j => .bl (f i j))) (hg : ∀ d e μ, gg d e μ = match d, e with
    | .int i, .int j => .ok (.bl (f i j)) μ
    | _, _ => .stuck) : Op2 X G lo W (compareOp op) gg := by
  intro pins s σ H x y v u Q I rx ry h
  obtain ⟨F, ca, μ, d, e, hl, g, rd, re, q⟩ := h
  rw [hg] at q
  split at q
  · cases rd
    cases re
    exact ho pins s σ H _ _ v u Q I rx ry ⟨_, _, rfl, rfl, q.now g (.bl _)⟩
  · exact q.elim
theorem c_lt : Op2 X G lo W (compareOp .Lt) (cmpD G.T cl .lt) := c_int op_lt fun d e μ => by cases d <;> cases e <;> rfl
theorem c_le : Op2 X G lo W (compareOp .LtE) (cmpD G.T cl .le) := c_int op_le fun d e μ => by cases d <;> cases e <;> rfl
theorem c_gt : Op2 X G lo W (compareOp .Gt) (cmpD G.T cl .gt) := c_int op_gt fun d e μ => by cases d <;> cases e <;> rfl
theorem c_ge : Op2 X G lo W (compareOp .GtE) (cmpD G.T cl .ge) := c_int op_ge fun d e μ => by cases d <;> cases e <;> rfl
theorem non_iff {d : D} {x : V} (r : Rp G F ca d x) : decide (x = .non) = decide (d = .non) := by
  cases r <;> simp
theorem c_is : Op2 X G lo W (compareOp .Is) (cmpD G.T cl .is) := by
  intro pins s σ H x y v u Q I rx ry h
  obtain ⟨F, ca, μ, d, e, hl, g, rd, re, q⟩ := h
  simp only [cmpD] at q
  split at q
  · cases rd
    cases re
    exact op_isBl pins s σ H _ _ v u Q I rx ry ⟨_, _, rfl, rfl, q.now g (.bl _)⟩
  · cases re
    exact op_isN pins s σ H _ _ v u Q I rx ry ⟨rfl, by rw [non_iff rd]; exact q.now g (.bl _)⟩
  · exact q.elim
theorem c_isnot : Op2 X G lo W (compareOp .IsNot) (cmpD G.T cl .isnot) := by
  intro pins s σ H x y v u Q I rx ry h
  obtain ⟨F, ca, μ, d, e, hl, g, rd, re, q⟩ := h
  simp only [cmpD] at q
  split at q
  · cases rd
    cases re
    exact op_notBl pins s σ H _ _ v u Q I rx ry ⟨_, _, rfl, rfl, q.now g (.bl _)⟩
  · cases re
    exact op_notN pins s σ H _ _ v u Q I rx ry ⟨rfl, by rw [non_iff rd]; exact q.now g (.bl _)⟩
  · exact q.elim
theorem inS_of {x z : Str} {k : Bool} (h : inS x z = some k) : ∃ c, x = ⟨#[c]⟩ ∧ k = decide (c ∈ z.cps.toList) := by
  unfold inS at h
  split at h
  · rename_i c e
    refine ⟨c, ?_, (Option.some.inj h).symm⟩
    obtain ⟨cps⟩ := x
    simp only at e
    congr
    exact Array.toList_inj.mp (by simpa using e)
  · cases h
theorem c_in (w : Wd X G cl k W) : Op2 X G lo W (compareOp .In) (cmpD G.T cl .isin) := by
  intro pins s σ H x y v u Q I rx ry h
  obtain ⟨F, ca, μ, d, e, hl, g, rd, re, q⟩ := h
  simp only [cmpD] at q
  split at q
  · split at q
    · split at q
      · rename_i e1
        cases rd
        cases re
        obtain ⟨c, rfl, rfl⟩ := inS_of e1
        exact op_in_sign pins s σ H _ _ v u Q I rx ry ⟨c, _, rfl, rfl, q.now g (.bl _)⟩
      · exact q.elim
    · exact q.elim
  · split at q
    · rename_i ys e1
      split at q
      · rename_i b e2
        obtain ⟨a, vs, rfl, h1, r⟩ := items_at g re e1
        cases ry
        show wpAny (model X.prog X.w) X.A (do return Value.bool (← contains (.ref a) v)) (EP X pins σ Q) X.xe s
        refine wpAny_bind (wpAny_mono (in_core (w.eqs eqN) ⟨w.rm, rfl⟩ I g r rd rx (by rw [w.hK]; exact h1) e2) (fun r s' hh => ?_) fun _ _ e => e)
        obtain ⟨rfl, ha⟩ := hh
        exact wpAny_pure (ep_aft g q hl (fun _ _ => .bl _) rfl ha)
      · exact q.elim
    · exact q.elim
theorem c_notin (w : Wd X G cl k W) : Op2 X G lo W (compareOp .NotIn) (cmpD G.T cl .notin) := by
  intro pins s σ H x y v u Q I rx ry h
  obtain ⟨F, ca, μ, d, e, hl, g, rd, re, q⟩ := h
  simp only [cmpD] at q
  split at q
  · split at q
    · split at q
      · rename_i e1
        cases rd
        cases re
        obtain ⟨c, rfl, rfl⟩ := inS_of e1
        exact op_notIn_sign pins s σ H _ _ v u Q I rx ry ⟨c, _, rfl, rfl, q.now g (.bl _)⟩
      · exact q.elim
    · exact q.elim
  · split at q
    · rename_i ys e1
      split at q
      · rename_i b e2
        obtain ⟨a, vs, rfl, h1, r⟩ := items_at g re e1
        cases ry
        show wpAny (model X.prog X.w) X.A (do return Value.bool (!(← contains (.ref a) v))) (EP X pins σ Q) X.xe s
        refine wpAny_bind (wpAny_mono (in_core (w.eqs eqN) ⟨w.rm, rfl⟩ I g r rd rx (by rw [w.hK]; exact h1) e2) (fun r s' hh => ?_) fun _ _ e => e)
        obtain ⟨rfl, ha⟩ := hh
        exact wpAny_pure (ep_aft g q hl (fun _ _ => .bl _) rfl ha)
      · exact q.elim
    · exact q.elim
def opC : COp → CmpOp
  | .eq => .Eq
  | .ne => .NotEq
  | .lt => .Lt
  | .le => .LtE
  | .gt => .Gt
  | .ge => .GtE
  | .is => .Is
  | .isnot => .IsNot
  | .isin => .In
  | .notin => .NotIn
theorem c_all (w : Wd X G cl k W) : ∀ op, Op2 X G lo W (compareOp (opC op)) (cmpD G.T cl op)
  | .eq => c_eq w
  | .ne => c_ne w
  | .lt => c_lt
  | .le => c_le
  | .gt => c_gt
  | .ge => c_ge
  | .is => c_is
  | .isnot => c_isnot
  | .isin => c_in w
  | .notin => c_notin w
end
end Sd

set_option Elab.async false
set_option linter.all false
set_option maxRecDepth 100000
set_option maxHeartbeats 4000000
/-! Sd10: + - * // % **, unary -. -/
namespace Sd
open PySem PySem.Spec PyProof.Rows L2 Pi
def opB : BOp → Operator
  | .add => .Add
  | .sub => .Sub
  | .mul => .Mult
  | .fdiv => .FloorDiv
  | .mod => .Mod
  | .pow => .Pow
section
variable {G : Geo} {cl : Cll} {lo n m k : Nat} {F H : Hp} {ca : List Addr} {μ : Mu} {σ : L2.St} {W : WX} {X : Cx} {pins : List (Addr × Obj)} {s : Shared}
theorem Wd.nm (w : Wd X G cl k W) : ∀ op, G.nm (opM op) = PySem.dunder (opB op).info.2
  | .add => w.n1
  | .sub => w.n2
  | .mul => w.n3
  | .fdiv => w.n4
  | .mod => w.n5
  | .pow => w.n6
theorem okMul_ok {i j : Int} (h : okMul i j = true) : IntMulOk i j := by
  simp only [okMul, Bool.or_eq_true, decide_eq_true_eq] at h
  rcases h with (h | h) | h
  · exact CMul.ok (.inl ⟨by omega, by omega⟩)
  · exact CMul.ok (.inr ⟨by omega, by omega⟩)
  · refine CMulX.ok ?_
    have b : ∀ x : Int, Builtin.Int.intBits x ≤ x.natAbs.log2 + 1 := fun x => by
      unfold Builtin.Int.intBits
      split <;> omega
    have h1 := b i
    have h2 := b j
    unfold CMulX
    unfold mulBits at h
    omega
theorem okR_iff {i : Int} (h : okR i = true) : -(2 ^ 63) ≤ i ∧ i < 2 ^ 63 := by
  simp only [Pi.okR, Bool.and_eq_true, decide_eq_true_eq] at h
  have e : rangeLine = 4611686018427387904 := rfl
  omega
/-- two numbers -/
theorem b_int {op : BOp} {i j r : Int} {v u : Value} {Q : VK} (I : Inv X pins σ H s) (rx : RelV (.int i) v) (ry : RelV (.int j) u) (h : Pi.binI op i j = some r) (q : Q (.int r) H) : wpAny (model X.prog X.w) X.A (binaryOp (opB op) v u) (EP X pins σ Q) X.xe s := by
  cases op with
  | add => cases h; exact op_add pins s σ H _ _ v u Q I rx ry ⟨i, j, rfl, rfl, q⟩
  | sub => cases h; exact op_sub pins s σ H _ _ v u Q I rx ry ⟨i, j, rfl, rfl, q⟩
  | mul =>
    simp only [Pi.binI] at h
    split at h
    · rename_i e
      cases h
      obtain ⟨t, rfl⟩ := rx
      obtain ⟨t', rfl⟩ := ry
      exact mul_int ⟨.int (i * j), H, I.tok _, ⟨_, rfl⟩, q⟩ (okMul_ok e)
    · cases h
  | fdiv =>
    simp only [Pi.binI] at h
    split at h
    · rename_i e
      cases h
      obtain ⟨t, rfl⟩ := rx
      obtain ⟨t', rfl⟩ := ry
      exact floordiv_int e.1 ⟨.int (i.fdiv j), H, I.tok _, ⟨_, rfl⟩, q⟩ (.inl (PyProof.noPylong_of_log2 e.2))
    · cases h
  | mod =>
    simp only [Pi.binI] at h
    split at h
    · cases h
    · rename_i e
      cases h
      exact op_modN pins s σ H _ _ v u Q I rx ry ⟨i, j, rfl, rfl, e, q⟩
  | pow =>
    simp only [Pi.binI] at h
    split at h
    · rename_i e
      cases h
      exact op_pow pins s σ H _ _ v u Q I rx ry ⟨i, j, rfl, rfl, ⟨e.1, e.2.1, by have := e.2.2; omega⟩, q⟩
    · cases h
theorem ep_back {Q : VK} {u : Value} {s' : Shared} (h : EP X pins σ Q u s') : PySem.W.CmpBack (EP X pins σ Q) u s' := by
  obtain ⟨v, H', I', rv, q⟩ := h
  have hh : EP X pins σ Q u s' := ⟨v, H', I', rv, q⟩
  cases u <;> first | exact hh | (cases v <;> first | (obtain ⟨_, e⟩ := rv; cases e; done) | (cases rv; done))
theorem recv_cls {m f c : Nat} {fs : List D} {μ : Mu} (hr : recvM G.T m (.ins c fs) μ = some f) : ∃ C, G.T.cls[c]? = some C ∧ C.exc = false ∧ lookN m C.meths = some f := by
  simp only [recvM] at hr
  split at hr
  · rename_i C0 e0
    split at hr
    · cases hr
    · rename_i e3
      exact ⟨C0, e0, by simpa using e3, hr⟩
  · cases hr
theorem ins_addr {c : Nat} {fs : List D} {x : V} (g : Gd G F ca μ H) (rd : Rp G F ca (.ins c fs) x) : ∃ a dx gs, x = .ref a ∧ H a = some (.ins (G.cad c) dx gs) := by
  cases rd with
  | ins _ _ hf' _ => exact ⟨_, _, _, rfl, g.le _ _ hf'⟩
theorem b_ins (w : Wd X G cl k W) {op : BOp} {c : Nat} {fs gs : List D} {x y : V} {v u : Value} {Q : VK} (I : Inv X pins σ H s) (hl : lo ≤ μ.length) (g : Gd G F ca μ H) (rd : Rp G F ca (.ins c fs) x) (re : Rp G F ca (.ins c gs) y) (rx : RelV x v) (ry : RelV y u)
    (q : Pk G lo (Rp G) F ca μ H (callM G.T cl lo (opM op) (.ins c fs) [.ins c gs] μ) σ Q W) : wpAny (model X.prog X.w) X.A (binaryOp (opB op) v u) (EP X pins σ Q) X.xe s := by
  simp only [callM] at q
  split at q
  · rename_i f hr
    obtain ⟨C0, hc0, hex, hl0⟩ := recv_cls hr
    obtain ⟨a, dx, fs1, rfl, h1⟩ := ins_addr g rd
    obtain ⟨a', dx2, fs2, rfl, h2⟩ := ins_addr g re
    have ok := w.hk c C0 hc0 hex
    have M := ok.meth _ _ hl0
    cases rx
    cases ry
    obtain ⟨mA, J, _⟩ := ins_get I.hok h1
    obtain ⟨mB, J', _⟩ := ins_get I.hok h2
    obtain ⟨od, J, _⟩ := J.look
    obtain ⟨od', J', _⟩ := J'.look
    obtain ⟨_, hF0⟩ := I.fr
    refine PySem.W.binop_K hF0 I.ok.mod.kin J J'.type ok.sf (by have z := M.at_; rw [w.nm op] at z; exact z) M.fn (wpAny_mono (fn_runA (Q := Q) w.hF w.room0 rfl f (w.hx σ) I (vs := [.ref a, .ref a']) (.cons rfl (.cons rfl .nil)) ⟨F, ca, μ, _, hl, g, .cons rd (.cons re .nil), q⟩) (fun r s' hh => ep_back hh) fun _ _ e => e)
  · exact q.elim
theorem b_all (w : Wd X G cl k W) (c : Bool) (op : BOp) : Op2 X G lo W (binaryOp (opB op)) (binD G.T cl lo c op) := by
  intro pins s σ H x y v u Q I rx ry h
  obtain ⟨F, ca, μ, d, e, hl, g, rd, re, q⟩ := h
  unfold binD at q
  split at q
  · split at q
    · split at q
      · rename_i e1
        cases rd
        cases re
        exact b_int I rx ry e1 (q.now g (.int _))
      · exact q.elim
    · exact q.elim
  · split at q
    · split at q
      · rename_i e1
        cases rd
        cases re
        exact op_add_str pins s σ H _ _ v u Q I rx ry ⟨_, _, rfl, rfl, by rw [sizeLine_eq]; exact e1, q.now g (.str _)⟩
      · exact q.elim
    · exact q.elim
  · split at q
    · cases rd with
      | tup h1 r1 =>
        cases re with
        | tup h2 r2 =>
          rename_i vs _ ws
          obtain ⟨z1, z2⟩ := newT_ok g (r1.append r2) q
          refine op_catA pins s σ H _ _ v u Q I rx ry ⟨_, _, vs, ws, rfl, rfl, by rw [w.hK]; exact sqT_le h1 g.le, by rw [w.hK]; exact sqT_le h2 g.le, by simpa using z1, ?_, ?_, fun _ _ => z2⟩
          · rintro rfl
            cases r1
            rw [newT, if_neg (by simp at z1; rw [sizeLine_eq] at z1; have := r2.length; simp [big]; omega)] at q
            exact q.now g (.tup h2 r2)
          · rintro - rfl
            cases r2
            rw [newT, if_neg (by simp at z1; rw [sizeLine_eq] at z1; have := r1.length; simp [big]; omega)] at q
            rw [List.append_nil] at q
            exact q.now g (.tup h1 r1)
    · split at q
      · rename_i e1
        cases rd with
        | tup h1 r1 =>
          cases re
          obtain ⟨z1, z2⟩ := newT_ok g (r1.rep _) q
          refine op_repT pins s σ H _ _ v u Q I rx ry ⟨_, _, _, rfl, rfl, by rw [w.hK]; exact sqT_le h1 g.le, ?_, e1.2.1, e1.2.2.1, by rw [← r1.length]; exact e1.2.2.2, z2⟩
          rintro rfl
          cases r1
          exact e1.1 rfl
      · exact q.elim
    · exact q.elim
  · split at q
    · split at q
      · rename_i e1
        subst e1
        exact b_ins w I hl g rd re rx ry q
      · exact q.elim
    · exact q.elim
  · split at q
    · rename_i e1
      obtain ⟨a, vs, rfl, h1, r1⟩ := list_at g rd e1
      split at q
      · split at q
        · rename_i e2
          obtain ⟨a', ws, rfl, h2, r2⟩ := list_at g re e2
          obtain ⟨z1, z2⟩ := newL_ok g hl (r1.append r2) q
          exact op_cat pins s σ H _ _ v u Q I rx ry ⟨_, _, vs, ws, rfl, rfl, h1, h2, by simpa using z1, z2⟩
        · exact q.elim
      · split at q
        · split at q
          · rename_i e2
            cases re
            obtain ⟨z1, z2⟩ := newL_ok g hl (r1.rep _) q
            obtain ⟨k1, k2⟩ := okR_iff e2.2
            exact op_rep pins s σ H _ _ v u Q I rx ry ⟨_, _, vs, rfl, rfl, h1, k1, k2, by rw [sizeLine_eq, ← r1.length]; exact e2.1, z2⟩
          · exact q.elim
        · exact q.elim
      · exact q.elim
    · exact q.elim
/-- a value's one-place operation -/
def Op1 (X : Cx) (G : Geo) (lo : Nat) (W : WX) (f : Value → Sem Value) (g : D → Mu → Out D) : Prop :=
  ∀ (pins : List (Addr × Obj)) (s : Shared) (σ : L2.St) (H : Hp) (x : V) (v : Value) (Q : VK), Inv X pins σ H s → RelV x v → Una G lo g σ Q W x H → wpAny (model X.prog X.w) X.A (f v) (EP X pins σ Q) X.xe s
def negD (T : Tab) (cl : Cll) (lo : Nat) (x : D) (μ : Mu) : Out D := match x with
  | .int i => .ok (.int (-i)) μ
  | _ => callM T cl lo 9 x [] μ
theorem n_neg (w : Wd X G cl k W) : Op1 X G lo W (unaryOp .USub) (negD G.T cl lo) := by
  intro pins s σ H x v Q I rx h
  obtain ⟨F, ca, μ, d, hl, g, rd, q⟩ := h
  unfold negD at q
  split at q
  · cases rd
    exact un_neg pins s σ H _ v Q I rx ⟨_, rfl, q.now g (.int _)⟩
  · simp only [callM] at q
    split at q
    · rename_i f hr
      obtain ⟨a, c, C, rfl, i1, l1⟩ := recv_ins g rd hr
      have ok := w.hk c C i1.hc i1.ex
      have M := ok.meth _ _ l1
      obtain ⟨dx, fs, h1, _⟩ := i1.look ok l1
      cases rx
      obtain ⟨mA, J, _⟩ := ins_get I.hok h1
      obtain ⟨od, J, _⟩ := J.look
      unfold unaryOp
      refine wpAny_holding ?_
      simp only [show (UnaryOp.USub == UnaryOp.Not) = false from rfl, Bool.false_eq_true, if_false]
      refine wpAny_bind (PySem.W.special_fn I.kIn J (by have z := M.at_; rw [w.n9] at z; exact z) (beq_iff_eq.mp M.fn) (wpAny_mono (fn_runA (Q := Q) w.hF w.room0 rfl f (w.hx σ) I (vs := [.ref a]) (.cons rfl .nil) ⟨F, ca, μ, _, hl, g, .cons rd .nil, q⟩) (fun r s' hh => ?_) fun _ _ e => e))
      exact wpAny_pure hh
    · exact q.elim
theorem pe_negD (w : Wd X G cl k W) {a : Expr} {ia : IE} {pos : Pos} (ha : PE X a (tD G cl lo n ia W)) : PE X (.UnaryOp .USub a pos) (tD G cl lo (n + 1) (.neg ia) W) := by
  refine ⟨fun pins s σ H Q I ⟨F, ca, μ, env, hh, q⟩ => ?_⟩
  have e : evE G.T cl lo (n + 1) env (.neg ia) μ = (evE G.T cl lo n env ia μ).bind (negD G.T cl lo) := by
    simp only [evE]
    congr
  rw [e] at q
  exact UnaryOp_ (thn (ha.run pins s σ H _ I (one_of hh q)) fun v s1 ⟨x, H1, I1, r1, q1⟩ => n_neg w pins s1 σ H1 x v Q I1 r1 q1)
/-- a op b op' c -/
theorem pe_cmp2D {a b c : Expr} {ia ib ic : IE} {op op' : CmpOp} {cop cop' : COp} {pos : Pos} (ha : PE X a (tD G cl lo n ia W)) (hb : PE X b (tD G cl lo n ib W)) (hc : PE X c (tD G cl lo n ic W)) (ho : Op2 X G lo W (compareOp op) (cmpD G.T cl cop)) (ho' : Op2 X G lo W (compareOp op') (cmpD G.T cl cop')) (hm : behindInMarks op b = false) (hm' : behindInMarks op' c = false) :
    PE X (.Compare a [op, op'] [b, c] pos) (tD G cl lo (n + 1) (.cmp2 cop cop' ia ib ic) W) := by
  refine ⟨fun pins s σ H Q I ⟨F, ca, μ, env, hh, q⟩ => ?_⟩
  simp only [evE] at q
  refine Compare_chain (thn (ha.run pins s σ H _ I ⟨F, ca, μ, env, hh, Pk.bind (R := Rp G) q⟩) fun v s1 ⟨x, H1, I1, rx, F1, ca1, μ1, d, x1, g1, rd, q1⟩ => ?_) (by simp only [lastMarks]; exact hm')
  have h1 := hh.step x1 g1
  refine chain_link (thn (hb.run pins s1 σ H1 _ I1 ⟨F1, ca1, μ1, env, h1, Pk.bind (R := Rp G) q1⟩) fun u s2 ⟨y, H2, I2, ry, F2, ca2, μ2, e, x2, g2, re, q2⟩ => ?_)
  have h2 := h1.step x2 g2
  refine thn (ho pins s2 σ H2 x y v u _ I2 rx ry ⟨F2, ca2, μ2, d, e, h2.hl, g2, Rp.mono x2.fle x2.pre rd, re, Pk.bind (R := Rp G) q2⟩) fun b' s3 ⟨z, H3, I3, r3, F3, ca3, μ3, kd, x3, g3, rk, q3⟩ => ?_
  have h3 := h2.step x3 g3
  split at q3
  · cases rk
    cases r3
    exact wpAny_truthy_bool (ite_tt (chain_last (thn (hc.run pins s3 σ H3 _ I3 ⟨F3, ca3, μ3, env, h3, Pk.bind (R := Rp G) q3⟩) fun w' s4 ⟨z', H4, I4, r4, F4, ca4, μ4, e4, x4, g4, re4, q4⟩ =>
      ho' pins s4 σ H4 y z' u w' Q I4 ry r4 ⟨F4, ca4, μ4, e, e4, (h3.step x4 g4).hl, g4, Rp.mono (x3.trans x4).fle (x3.trans x4).pre re, re4, q4⟩)))
  · cases rk
    cases r3
    exact wpAny_truthy_bool (ite_ff ⟨.bl false, H3, I3, rfl, q3.now g3 (.bl false)⟩)
  · exact q3.elim
end
end Sd

set_option Elab.async false
set_option linter.all false
set_option maxRecDepth 100000
set_option maxHeartbeats 4000000
/-! Sd11: calls of built-in functions, types and methods. -/
namespace Sd
open PySem PySem.Spec PyProof.Rows L2 Pi
section
variable {G : Geo} {cl : Cll} {lo n m k : Nat} {F H : Hp} {ca : List Addr} {μ : Mu} {σ : L2.St} {W : WX} {X : Cx} {pins : List (Addr × Obj)} {s : Shared} {c : Bool}
/-- from a rule of the hand layer -/
theorem ca_of {f : Value} {r : List V → Hp → VK → Prop} {g : List D → Mu → Out D} (hc : CallR X f r) (h : ∀ σ Q xs H pins s, Inv X pins σ H s → Lis G lo g σ Q W xs H → r xs H Q) : Ca X G lo W f g :=
  fun pins s σ H xs us Q I r q => hc pins s σ H xs us Q I r (h σ Q xs H pins s I q)
theorem rps1 {d : D} {vs : List V} (r : Rps G F ca [d] vs) : ∃ v, vs = [v] ∧ Rp G F ca d v := by
  cases r with
  | cons r1 t => cases t; exact ⟨_, rfl, r1⟩
theorem rps2 {d e : D} {vs : List V} (r : Rps G F ca [d, e] vs) : ∃ v w, vs = [v, w] ∧ Rp G F ca d v ∧ Rp G F ca e w := by
  cases r with
  | cons r1 t =>
    obtain ⟨w, rfl, r2⟩ := rps1 t
    exact ⟨_, w, rfl, r1, r2⟩
theorem allInts_rps : ∀ {xs : List D} {vs : List V} {ns : List Int}, Rps G F ca xs vs → allInts xs = some ns → vs = ns.map V.int
  | [], _, _, .nil, h => by cases h; rfl
  | x :: xs, _, ns, .cons r1 t, h => by
    cases r1 with
    | int i =>
      simp only [allInts, Option.map_eq_some_iff] at h
      obtain ⟨ms, h1, rfl⟩ := h
      rw [allInts_rps t h1]
      rfl
    | _ => simp [allInts] at h
theorem allBls_rps : ∀ {xs : List D} {vs : List V} {ns : List Bool}, Rps G F ca xs vs → allBls xs = some ns → vs = ns.map V.bl
  | [], _, _, .nil, h => by cases h; rfl
  | x :: xs, _, ns, .cons r1 t, h => by
    cases r1 with
    | bl i =>
      simp only [allBls, Option.map_eq_some_iff] at h
      obtain ⟨ms, h1, rfl⟩ := h
      rw [allBls_rps t h1]
      rfl
    | _ => simp [allBls] at h
theorem rps_ints {ns : List Int} : Rps G F ca (ns.map .int) (ns.map V.int) := by
  induction ns with
  | nil => exact .nil
  | cons n ns ih => exact .cons (.int n) ih

def lenIns (T : Tab) (cl : Cll) (lo : Nat) (d : D) (μ : Mu) : Out D := match callM T cl lo 7 d [] μ with
  | .ok (.int i) μ => if 0 ≤ i ∧ okR i = true then .ok (.int i) μ else .stuck
  | .ex c fs μ => .ex c fs μ
  | _ => .stuck
theorem ca_sum (hK : X.K = G.K) (hc : X.calm = true) : Ca X G lo W (.builtin "sum") (prD G.T cl lo c .sum) := ca_of (cr_sum hc) fun σ Q xs H pins s I ⟨F, ca, μ, ds, hl, g, r, q⟩ => by
  cases ds with
  | nil => exact q.elim
  | cons d ds =>
    cases ds with
    | cons _ _ => exact q.elim
    | nil =>
      obtain ⟨v, rfl, r1⟩ := rps1 r
      simp only [prD] at q
      split at q
      · rename_i ys e1
        split at q
        · rename_i ns e2
          obtain ⟨a, vs, rfl, h1, r2⟩ := list_at g r1 e1
          have := allInts_rps r2 e2
          subst this
          exact ⟨a, ns, rfl, .inl (.inl h1), q.now g (.int _)⟩
        · exact q.elim
      · exact q.elim
theorem ca_all (hK : X.K = G.K) (hc : X.calm = true) : Ca X G lo W (.builtin "all") (prD G.T cl lo c .all) := ca_of (cr_all hc) fun σ Q xs H pins s I ⟨F, ca, μ, ds, hl, g, r, q⟩ => by
  cases ds with
  | nil => exact q.elim
  | cons d ds =>
    cases ds with
    | cons _ _ => exact q.elim
    | nil =>
      obtain ⟨v, rfl, r1⟩ := rps1 r
      simp only [prD] at q
      split at q
      · rename_i ys e1
        split at q
        · rename_i ns e2
          obtain ⟨a, vs, rfl, h1, r2⟩ := list_at g r1 e1
          have := allBls_rps r2 e2
          subst this
          exact ⟨a, ns, rfl, .inl (.inl h1), q.now g (.bl _)⟩
        · exact q.elim
      · exact q.elim
theorem ca_any (hK : X.K = G.K) (hc : X.calm = true) : Ca X G lo W (.builtin "any") (prD G.T cl lo c .any) := ca_of (cr_any hc) fun σ Q xs H pins s I ⟨F, ca, μ, ds, hl, g, r, q⟩ => by
  cases ds with
  | nil => exact q.elim
  | cons d ds =>
    cases ds with
    | cons _ _ => exact q.elim
    | nil =>
      obtain ⟨v, rfl, r1⟩ := rps1 r
      simp only [prD] at q
      split at q
      · rename_i ys e1
        split at q
        · rename_i ns e2
          obtain ⟨a, vs, rfl, h1, r2⟩ := list_at g r1 e1
          have := allBls_rps r2 e2
          subst this
          exact ⟨a, ns, rfl, .inl (.inl h1), q.now g (.bl _)⟩
        · exact q.elim
      · exact q.elim
theorem ca_list (hK : X.K = G.K) : Ca X G lo W (.type "list") (prD G.T cl lo c .list) := ca_of call_list_of fun σ Q xs H pins s I ⟨F, ca, μ, ds, hl, g, r, q⟩ => by
  cases ds with
  | nil => exact q.elim
  | cons d ds =>
    cases ds with
    | cons _ _ => exact q.elim
    | nil =>
      obtain ⟨v, rfl, r1⟩ := rps1 r
      simp only [prD] at q
      split at q
      · rename_i ys e1
        obtain ⟨a, vs, rfl, h1, r2⟩ := items_at g r1 e1
        exact ⟨a, vs, rfl, by rw [hK]; exact h1, (newL_ok g hl r2 q).2⟩
      · exact q.elim
theorem ca_tuple (hK : X.K = G.K) : Ca X G lo W (.type "tuple") (prD G.T cl lo c .tuple) := ca_of call_tuple_of fun σ Q xs H pins s I ⟨F, ca, μ, ds, hl, g, r, q⟩ => by
  cases ds with
  | nil => exact q.elim
  | cons d ds =>
    cases ds with
    | cons _ _ => exact q.elim
    | nil =>
      obtain ⟨v, rfl, r1⟩ := rps1 r
      simp only [prD] at q
      split at q
      · rename_i ys e1
        obtain ⟨a, vs, rfl, h1, r2⟩ := items_at g r1 e1
        refine ⟨a, vs, rfl, ?_⟩
        rw [hK]
        rcases h1 with h1 | h1
        · exact .inl ⟨h1, (newT_ok g r2 q).2⟩
        · refine .inr ⟨h1, ?_⟩
          have z := (newT_ok g r2 q).1
          rw [newT, if_neg (by rw [sizeLine_eq] at z; have := r2.length; simp [big]; omega)] at q
          cases r1 with
          | tup hs rs =>
            cases e1
            exact q.now g (.tup hs rs)
          | lst hf rs =>
            exfalso
            obtain ⟨_, _, p, _⟩ := I.tuple (X := X) (by rw [hK]; exact h1)
            obtain ⟨_, _, p', _⟩ := I.list (X := X) (.inl (.inl (g.le _ _ hf)))
            exact absurd (KAt.inj (.tup p) (.lst p'.isList)) (by decide)
          | arg hf rs =>
            exfalso
            obtain ⟨_, _, p, _⟩ := I.tuple (X := X) (by rw [hK]; exact h1)
            obtain ⟨_, _, p', _⟩ := I.list (X := X) (by rw [hK]; exact sqL_le hf g.le)
            exact absurd (KAt.inj (.tup p) (.lst p'.isList)) (by decide)
          | @cell k' a' hk =>
            exfalso
            simp only [items] at e1
            split at e1
            · rename_i zs e3
              obtain ⟨vs', h3, _⟩ := g.cel _ _ _ hk e3
              obtain ⟨_, _, p, _⟩ := I.tuple (X := X) (by rw [hK]; exact h1)
              obtain ⟨_, _, p', _⟩ := I.list (X := X) (.inl (.inl h3))
              exact absurd (KAt.inj (.tup p) (.lst p'.isList)) (by decide)
            · cases e1
          | _ => cases e1
      · exact q.elim
theorem ca_max (hc : X.calm = true) : Ca X G lo W (.builtin "max") (prD G.T cl lo c .max2) := ca_of (call_max2 hc) fun σ Q xs H pins s I ⟨F, ca, μ, ds, hl, g, r, q⟩ => by
  unfold prD at q
  split at q <;> first | (rename_i h1; cases h1; done) | exact q.elim | skip
  rename_i i j h1
  obtain ⟨v, w, rfl, r1, r2⟩ := rps2 r
  cases r1
  cases r2
  exact ⟨_, _, rfl, q.now g (.int _)⟩
theorem ca_min (hc : X.calm = true) : Ca X G lo W (.builtin "min") (prD G.T cl lo c .min2) := ca_of (call_min2 hc) fun σ Q xs H pins s I ⟨F, ca, μ, ds, hl, g, r, q⟩ => by
  unfold prD at q
  split at q <;> first | (rename_i h1; cases h1; done) | exact q.elim | skip
  rename_i i j h1
  obtain ⟨v, w, rfl, r1, r2⟩ := rps2 r
  cases r1
  cases r2
  exact ⟨_, _, rfl, q.now g (.int _)⟩
theorem ca_abs : Ca X G lo W (.builtin "abs") (prD G.T cl lo c .abs) := ca_of call_abs fun σ Q xs H pins s I ⟨F, ca, μ, ds, hl, g, r, q⟩ => by
  unfold prD at q
  split at q <;> first | (rename_i h1; cases h1; done) | exact q.elim | skip
  obtain ⟨v, rfl, r1⟩ := rps1 r
  cases r1
  exact ⟨_, rfl, q.now g (.int _)⟩
theorem ca_int : Ca X G lo W (.type "int") (prD G.T cl lo c .int) := ca_of call_int1 fun σ Q xs H pins s I ⟨F, ca, μ, ds, hl, g, r, q⟩ => by
  unfold prD at q
  split at q <;> first | (rename_i h1; cases h1; done) | exact q.elim | skip
  · obtain ⟨v, rfl, r1⟩ := rps1 r
    cases r1
    exact .inl ⟨_, rfl, q.now g (.int _)⟩
  · obtain ⟨v, rfl, r1⟩ := rps1 r
    cases r1
    exact .inr ⟨_, rfl, q.now g (.int _)⟩
theorem ca_gcd : Ca X G lo W (.builtin "math.gcd") (prD G.T cl lo c .gcd) := ca_of cr_gcd fun σ Q xs H pins s I ⟨F, ca, μ, ds, hl, g, r, q⟩ => by
  unfold prD at q
  split at q <;> first | (rename_i h1; cases h1; done) | exact q.elim | skip
  rename_i i j h1
  obtain ⟨v, w, rfl, r1, r2⟩ := rps2 r
  cases r1
  cases r2
  exact ⟨_, _, rfl, q.now g (.int _)⟩
end
end Sd

set_option Elab.async false
set_option linter.all false
set_option maxRecDepth 100000
set_option maxHeartbeats 4000000
/-! Sd12: len, sorted, methods of lists, isinstance. -/
namespace Sd
open PySem PySem.Spec PyProof.Rows L2 Pi
section
variable {G : Geo} {cl : Cll} {lo n m k : Nat} {F H : Hp} {ca : List Addr} {μ : Mu} {σ : L2.St} {W : WX} {X : Cx} {pins : List (Addr × Obj)} {s : Shared} {c : Bool}
theorem ca_len (w : Wd X G cl k W) : Ca X G lo W (.builtin "len") (prD G.T cl lo c .len) := by
  intro pins s σ H xs us Q I rv ⟨F, ca, μ, ds, hl, g, r, q⟩
  unfold prD at q
  split at q <;> first | (rename_i h1 _; cases h1; done) | (rename_i h1; cases h1; done) | exact q.elim | skip
  · obtain ⟨v, rfl, r1⟩ := rps1 r
    cases r1
    split at q
    · rename_i e1
      exact call_len pins s σ H _ us Q I rv ⟨_, _, rfl, ⟨by rw [sizeLine_eq]; exact e1, rfl⟩, q.now g (.int _)⟩
    · exact q.elim
  · rename_i c' fs h1
    obtain ⟨v, rfl, r1⟩ := rps1 r
    simp only [callM] at q
    split at q
    · rename_i f hr
      obtain ⟨a, c, C, rfl, i1, l1⟩ := recv_ins g r1 hr
      have ok := w.hk c C i1.hc i1.ex
      have M := ok.meth _ _ l1
      obtain ⟨dx, fs, h1, _⟩ := i1.look ok l1
      obtain ⟨u, rfl, ru⟩ := Vals.one rv
      cases ru
      obtain ⟨mA, J, _⟩ := ins_get I.hok h1
      obtain ⟨od, J, _⟩ := J.look
      obtain ⟨_, hF0⟩ := I.fr
      refine PySem.W.len_K hF0 I.ok.mod.kin J (by have z := M.at_; rw [w.n7] at z; exact z) M.fn (wpAny_mono (fn_runA (lo := lo) (A := X.A.in1) (Q := fun v H' => ∃ i : Int, v = .int i ∧ 0 ≤ i ∧ i < 2 ^ 63 ∧ Q (.int i) H') w.hF (Room.in1 (w.rm.mono (by omega))) rfl f (w.hx σ) I (vs := [.ref a]) (.cons rfl .nil) ⟨F, ca, μ, _, hl, g, .cons r1 .nil, ?_⟩) (fun r s' hh => ?_) fun _ _ e => e)
      · cases e : callF G.T cl lo f [.ins c' _] μ with
        | stuck => rw [e] at q; exact q.elim
        | ex c2 fs2 μ2 => rw [e] at q; exact q
        | ok d μ2 =>
          rw [e] at q
          cases d <;> first | exact q.elim | skip
          simp only [lenI] at q
          split at q
          · rename_i e2
            intro b F' ca' H' x g' rb
            cases rb
            obtain ⟨k1, k2⟩ := okR_iff e2.2
            exact ⟨_, rfl, e2.1, k2, q _ F' ca' H' x g' (.int _)⟩
          · exact q.elim
      · obtain ⟨v, H', I', rv', i, rfl, k1, k2, q'⟩ := hh
        obtain ⟨t, rfl⟩ := rv'
        exact ⟨⟨k1, k2⟩, .int i, H', I'.tok _, ⟨_, rfl⟩, q'⟩
    · exact q.elim
  · obtain ⟨v, rfl, r1⟩ := rps1 r
    split at q
    · rename_i ys e1
      obtain ⟨a, vs, rfl, h1, r2⟩ := items_at g r1 e1
      refine call_len pins s σ H _ us Q I rv ⟨_, vs.length, rfl, ?_, by rw [← r2.length]; exact q.now g (.int _)⟩
      rw [w.hK]
      rcases h1 with h1 | h1
      · exact .inl ⟨vs, h1, rfl⟩
      · exact .inr ⟨vs, h1, rfl⟩
    · exact q.elim
theorem sort_unique {a b : List Int} (p : a.Perm b) (ha : a.Pairwise (· ≤ ·)) (hb : b.Pairwise (· ≤ ·)) : a = b := p.eq_of_pairwise (fun x y _ _ h1 h2 => Int.le_antisymm h1 h2) ha hb
theorem sortI_perm (ns : List Int) : (sortI ns).Perm ns := List.mergeSort_perm ns _
theorem sortI_sorted (ns : List Int) : (sortI ns).Pairwise (· ≤ ·) := by
  have := List.pairwise_mergeSort (le := fun a b : Int => decide (a ≤ b)) (fun a b c h1 h2 => by simp at *; omega) (fun a b => by simp; omega) ns
  exact this.imp (by simp)
theorem ca_sorted (hK : X.K = G.K) : Ca X G lo W (.builtin "sorted") (prD G.T cl lo c .sorted) := ca_of cr_sortedI fun σ Q xs H pins s I ⟨F, ca, μ, ds, hl, g, r, q⟩ => by
  cases ds with
  | nil => exact q.elim
  | cons d ds =>
    cases ds with
    | cons _ _ => exact q.elim
    | nil =>
      obtain ⟨v, rfl, r1⟩ := rps1 r
      simp only [prD] at q
      split at q
      · rename_i ys e1
        split at q
        · rename_i ns e2
          obtain ⟨a, vs, rfl, h1, r2⟩ := list_at g r1 e1
          have := allInts_rps r2 e2
          subst this
          refine ⟨a, ns, rfl, .inl (.inl h1), fun ns' p hp hs hn => ?_⟩
          have e3 : ns' = sortI ns := sort_unique (hp.trans (sortI_perm ns).symm) hs (sortI_sorted ns)
          subst e3
          exact (newL_ok g hl rps_ints q).2 p hn
        · exact q.elim
      · exact q.elim
/-! ### methods of lists -/
def Mt (X : Cx) (G : Geo) (lo : Nat) (W : WX) (id : String) (g : List D → Mu → Out D) : Prop :=
  ∀ (pins : List (Addr × Obj)) (s : Shared) (σ : L2.St) (H : Hp) (x : V) (xs : List V) (v : Value) (us : List Value) (Q : VK), Inv X pins σ H s → RelV x v → Vals xs us → Lis G lo g σ Q W (x :: xs) H →
    wpAny (model X.prog X.w) X.A (call (.builtin id) (v :: us)) (EP X pins σ Q) X.xe s
theorem mt_of {id : String} {r : V → List V → Hp → VK → Prop} {g : List D → Mu → Out D} (hc : MtR X id r) (h : ∀ σ Q x xs H, Lis G lo g σ Q W (x :: xs) H → r x xs H Q) : Mt X G lo W id g :=
  fun pins s σ H x xs v us Q I r1 r q => hc pins s σ H x xs v us Q I r1 r (h σ Q x xs H q)
theorem wrL_of {d : D} {x : V} {f : List D → Option (List D)} {μ' : Mu} (g : Gd G F ca μ H) (r : Rp G F ca d x) (h : wrL lo d μ f = some μ') :
    ∃ k a xs ys vs, d = .cell k ∧ x = .ref a ∧ lo ≤ k ∧ ca[k]? = some a ∧ H a = some (.lst vs) ∧ Rps G F ca xs vs ∧ isList μ d = some xs ∧ f xs = some ys ∧ μ' = μ.set k (.lst ys) := by
  unfold wrL at h
  split at h
  · rename_i k
    split at h
    · rename_i hk
      split at h
      · rename_i xs e1
        split at h
        · rename_i ys e2
          cases h
          cases r with
          | cell hc =>
            obtain ⟨vs, h1, h2⟩ := g.cel _ _ _ hc e1
            exact ⟨k, _, xs, ys, vs, rfl, rfl, hk, hc, h1, h2, by simp only [isList, e1], e2, rfl⟩
        · cases h
      · cases h
    · cases h
  · cases h
/-- a list is written -/
theorem wrote {k : Nat} {a : Addr} {ys : List D} {ws : List V} {d : D} {v : V} {Q : VK} (g : Gd G F ca μ H) (hc : ca[k]? = some a) (hk : lo ≤ k) (rw' : Rps G F ca ys ws) (rd : Rp G F ca d v) (q : Pk G lo (Rp G) F ca μ H (.ok d (μ.set k (.lst ys))) σ Q W) : Q v (upd H a (.lst ws)) :=
  q v F ca _ (Xt.wrote g hc hk _ _) (g.wrote hc fun H' e => ⟨ws, e, rw'⟩) rd
theorem mtd_append : Mt X G lo W "list.append" (prD G.T cl lo c .append) := mt_of mt_append fun σ Q x xs H ⟨F, ca, μ, ds, hl, g, r, q⟩ => by
  unfold prD at q
  split at q <;> first | (rename_i h1; cases h1; done) | exact q.elim | skip
  obtain ⟨v, w, e, r1, r2⟩ := rps2 r
  cases e
  split at q
  · rename_i μ' e1
    obtain ⟨k, a, ys, zs, vs, rfl, rfl, hk, hc, h1, h2, h3, h4, rfl⟩ := wrL_of g r1 e1
    split at h4
    · rename_i e2
      cases h4
      exact ⟨a, vs, w, rfl, rfl, h1, by rw [← h2.length, sizeLine_eq]; exact e2, wrote g hc hk (h2.append (.cons r2 .nil)) .non q⟩
    · cases h4
  · exact q.elim
theorem mtd_extend : Mt X G lo W "list.extend" (prD G.T cl lo c .extend) := mt_of mt_extend fun σ Q x xs H ⟨F, ca, μ, ds, hl, g, r, q⟩ => by
  unfold prD at q
  split at q <;> first | (rename_i h1; cases h1; done) | exact q.elim | skip
  obtain ⟨v, w, e, r1, r2⟩ := rps2 r
  cases e
  split at q
  · rename_i ms e0
    obtain ⟨b, us, rfl, hb, r3⟩ := list_at g r2 e0
    split at q
    · rename_i μ' e1
      obtain ⟨k, a, ys, zs, vs, rfl, rfl, hk, hc, h1, h2, h3, h4, rfl⟩ := wrL_of g r1 e1
      split at h4
      · rename_i e2
        cases h4
        exact ⟨a, b, vs, us, rfl, rfl, h1, hb, by rw [← h2.length, ← r3.length, sizeLine_eq]; exact e2, wrote g hc hk (h2.append r3) .non q⟩
      · cases h4
    · exact q.elim
  · exact q.elim
theorem mtd_pop : Mt X G lo W "list.pop" (prD G.T cl lo c .pop) := mt_of mt_pop fun σ Q x xs H ⟨F, ca, μ, ds, hl, g, r, q⟩ => by
  unfold prD at q
  split at q <;> first | (rename_i h1; cases h1; done) | exact q.elim | skip
  obtain ⟨v, e, r1⟩ := rps1 r
  cases e
  split at q
  · rename_i ms e0
    split at q
    · rename_i y e2
      split at q
      · rename_i μ' e1
        obtain ⟨k, a, ys, zs, vs, rfl, rfl, hk, hc, h1, h2, h3, h4, rfl⟩ := wrL_of g r1 e1
        rw [h3] at e0
        cases e0
        cases h4
        rw [List.getLast?_eq_getElem?] at e2
        obtain ⟨w, e4, rw'⟩ := h2.get e2
        exact ⟨a, vs, w, rfl, rfl, h1, by rw [← h2.length]; exact e4, wrote g hc hk h2.dropLast rw' q⟩
      · exact q.elim
    · exact q.elim
  · exact q.elim
theorem mtd_popAt : Mt X G lo W "list.pop" (prD G.T cl lo c .popAt) := mt_of mt_popAt fun σ Q x xs H ⟨F, ca, μ, ds, hl, g, r, q⟩ => by
  unfold prD at q
  split at q <;> first | (rename_i h1; cases h1; done) | exact q.elim | skip
  rename_i l i _
  obtain ⟨v, w, e, r1, r2⟩ := rps2 r
  cases e
  cases r2
  split at q
  · rename_i ms e0
    split at q
    · rename_i j e3
      split at q
      · rename_i y e2
        split at q
        · rename_i μ' e1
          obtain ⟨k, a, ys, zs, vs, rfl, rfl, hk, hc, h1, h2, h3, h4, rfl⟩ := wrL_of g r1 e1
          rw [h3] at e0
          cases e0
          cases h4
          obtain ⟨w, e4, rw'⟩ := h2.get e2
          split at e3
          · rename_i e5
            obtain ⟨k1, k2⟩ := okR_iff e5
            rw [ixOf_eq, h2.length] at e3
            obtain ⟨s1, s2, _⟩ := ixN_seq e3
            exact ⟨a, vs, i, j, w, rfl, rfl, h1, k1, k2, s1, e4, wrote g hc hk (h2.eraseIdx j) rw' q⟩
          · cases e3
        · exact q.elim
      · exact q.elim
    · exact q.elim
  · exact q.elim
theorem isl_ty (hK : X.K = G.K) (g : Gd G F ca μ H) {d : D} {x : V} {xs : List D} (r : Rp G F ca d x) (h : isList μ d = some xs) : tyV X.K "list" x H := by
  obtain ⟨a, vs, rfl, h1, _⟩ := list_at g r h
  exact .inl ⟨rfl, vs, .inl (.inl h1)⟩
theorem pe_bmD (hK : X.K = G.K) {o e : Expr} {es : List Expr} {io : IE} {ies : List IE} {p : Pr} {name : Str} {id : String} {apos cpos : Pos} (pa : PlainAttrs "list") (slot : Slot "list" name id) (hty : typeOf (.builtin id) = pure (.type "method_descriptor")) (hm : Mt X G lo W id (prD G.T cl lo c p))
    (ho : PE X o (tD G cl lo n io W)) (ha : PA X (e :: es) (tDs G cl lo n ies W)) (hb : plainO o = true) (hs : starEach (e :: es) X.env = (false, eval e X.env) :: starEach es X.env) (hplain : (backTo cpos (starEach es X.env)).any (·.1) = false) (hl : (apos.endLine == cpos.line) = true) (hn : es.length < 28) :
    PE X (.Call (.Attribute o name apos) (e :: es) [] cpos) (tD G cl lo (n + 1) (.bm c p io ies) W) := by
  refine ⟨fun pins s σ H Q I ⟨F, ca, μ, env, hh, q⟩ => ?_⟩
  simp only [evE] at q
  have hp : (backTo cpos (starEach (e :: es) X.env)).any (·.1) = false := by
    rw [hs]
    show (false || (backTo cpos (starEach es X.env)).any (·.1)) = false
    rw [hplain]
    rfl
  have hfew := few_of (args := e :: es) hp (by simp only [List.length_cons]; omega)
  refine wpAny_Call_method_late (plain_base hb) hfew hl rfl (thn (ho.run pins s σ H _ I ⟨F, ca, μ, env, hh, Pk.bind (R := Rp G) q⟩) fun v s1 ⟨x, H1, I1, r1, F1, ca1, μ1, d, x1, g1, rd, q1⟩ => ?_)
  split at q1
  · rename_i xs e1
    obtain ⟨h1, h2⟩ := tyV_is I1 r1 (isl_ty hK g1 rd e1)
    refine ⟨"list", id, pa, slot, hty, h1, h2, ?_⟩
    have hA := ha.run cpos pins s1 σ H1 _ I1 ⟨F1, ca1, μ1, env, hh.step x1 g1, Pk.bind (R := Rps G) q1⟩
    rw [hs] at hA ⊢
    refine Calls.callWith_builtin (by show (false || (backTo cpos (starEach es X.env)).any (·.1)) = false; rw [hplain]; rfl) (Calls.evalArgs_plain (thn hA fun us s2 ⟨vs, H2, I2, r2, F2, ca2, μ2, ds, x2, g2, rds, q2⟩ => ?_))
    exact hm pins s2 σ H2 x vs v us Q I2 r1 r2 ⟨F2, ca2, μ2, d :: ds, ((hh.step x1 g1).step x2 g2).hl, g2, .cons (Rp.mono x2.fle x2.pre rd) rds, q2⟩
  · exact q1.elim
theorem pe_bm0D (hK : X.K = G.K) {o : Expr} {io : IE} {p : Pr} {name : Str} {id : String} {apos cpos : Pos} (pa : PlainAttrs "list") (slot : Slot "list" name id) (hty : typeOf (.builtin id) = pure (.type "method_descriptor")) (hm : Mt X G lo W id (prD G.T cl lo c p))
    (ho : PE X o (tD G cl lo n io W)) (hb : plainO o = true) (hl : (apos.endLine == cpos.line) = true) :
    PE X (.Call (.Attribute o name apos) [] [] cpos) (tD G cl lo (n + 1) (.bm c p io []) W) := by
  refine ⟨fun pins s σ H Q I ⟨F, ca, μ, env, hh, q⟩ => ?_⟩
  simp only [evE] at q
  refine wpAny_Call_method0_late (plain_base hb) hl (thn (ho.run pins s σ H _ I ⟨F, ca, μ, env, hh, Pk.bind (R := Rp G) q⟩) fun v s1 ⟨x, H1, I1, r1, F1, ca1, μ1, d, x1, g1, rd, q1⟩ => ?_)
  split at q1
  · rename_i xs e1
    obtain ⟨h1, h2⟩ := tyV_is I1 r1 (isl_ty hK g1 rd e1)
    exact ⟨"list", id, pa, slot, hty, h1, h2, Calls.callWith_builtin rfl (PySem.evalArgs_none (hm pins s1 σ H1 x [] v [] Q I1 r1 .nil ⟨F1, ca1, μ1, [d], (hh.step x1 g1).hl, g1, .cons rd .nil, q1⟩))⟩
  · exact q1.elim
end
end Sd

set_option Elab.async false
set_option linter.all false
set_option maxRecDepth 100000
set_option maxHeartbeats 4000000
/-! Sd13: isinstance, calls by name. -/
namespace Sd
open PySem PySem.Spec PyProof.Rows L2 Pi
def tyR (G : Geo) : Ty → V
  | .int => .ty "int"
  | .bool => .ty "bool"
  | .str => .ty "str"
  | .list => .ty "list"
  | .tuple => .ty "tuple"
  | .dict => .ty "dict"
  | .own c => .ref (G.cad c)
theorem tyR_cls (G : Geo) : ∀ t, ClsV (tyR G t) (tyU G t)
  | .int => .ty _
  | .bool => .ty _
  | .str => .ty _
  | .list => .ty _
  | .tuple => .ty _
  | .dict => .ty _
  | .own c => .own _
theorem tyR_rel (G : Geo) (t : Ty) : RelV (tyR G t) (tyU G t) := by cases t <;> rfl
/-- what isinstance asks of the classes -/
structure IsOk (X : Cx) (G : Geo) : Prop where
  kb : ∀ κ t, t ∈ ([.int, .bool, .str, .list, .tuple, .dict] : List Ty) → PySem.W.kitOne X.K (.type (kdT κ)) (tyU G t) = some (isK κ t)
  ko : ∀ κ c C, G.T.cls[c]? = some C → PySem.W.kitOne X.K (.type (kdT κ)) (.ref (G.cad c)) = some false
  cb : ∀ c C t, G.T.cls[c]? = some C → C.exc = false → t ∈ ([.int, .bool, .str, .list, .tuple, .dict] : List Ty) → PySem.W.kitOne X.K (.ref (G.cad c)) (tyU G t) = some false
  cc : ∀ c C c' C', G.T.cls[c]? = some C → C.exc = false → G.T.cls[c']? = some C' → PySem.W.kitOne X.K (.ref (G.cad c)) (.ref (G.cad c')) = some (decide (c' = c))
  ca : ∀ c C, G.T.cls[c]? = some C → C.exc = false → PySem.W.findIn X.K (.ref (G.cad c)) "__class__" = some (some (.builtin "object.__class__"))
  cn : PySem.W.specialIn X.K (.builtin "object.__class__") "__get__" = some (some (.builtin "getset_descriptor.__get__"))
  ct : PySem.W.takesIn X.K (.builtin "object.__class__") = some true
def tyIn (T : Tab) : Ty → Bool
  | .own c => decide (c < T.cls.length)
  | _ => true
section
variable {G : Geo} {cl : Cll} {lo n m k : Nat} {F H : Hp} {ca : List Addr} {μ : Mu} {σ : L2.St} {W : WX} {X : Cx} {pins : List (Addr × Obj)} {s : Shared} {c : Bool}
theorem isK_ok (o : IsOk X G) {κ : Kd} {t : Ty} (ht : tyIn G.T t = true) : PySem.W.kitOne X.K (.type (kdT κ)) (tyU G t) = some (isK κ t) := by
  cases t with
  | own c =>
    simp only [tyIn, decide_eq_true_eq] at ht
    exact o.ko κ c _ (List.getElem?_eq_getElem ht)
  | _ => exact o.kb κ _ (by simp)
theorem isC_ok (o : IsOk X G) {c : Nat} {C : Kl} (hc : G.T.cls[c]? = some C) (he : C.exc = false) {t : Ty} (ht : tyIn G.T t = true) : PySem.W.kitOne X.K (.ref (G.cad c)) (tyU G t) = some (isC c t) := by
  cases t with
  | own c' =>
    simp only [tyIn, decide_eq_true_eq] at ht
    exact o.cc c C c' _ hc he (List.getElem?_eq_getElem ht)
  | _ => exact o.cb c C _ hc he (by simp)
theorem tyx_kind (hK : X.K = G.K) (g : Gd G F ca μ H) {d : D} {x : V} {κ : Kd} (r : Rp G F ca d x) (h : kindD μ d = some κ) : TyX X.K H x (.type (kdT κ)) := by
  cases r with
  | non => cases h; exact .base .non
  | bl b => cases h; exact .base (.bl b)
  | int i => cases h; exact .base (.int i)
  | str z => cases h; exact .base (.str z)
  | tup hs rs =>
    cases h
    rcases sqT_le hs g.le with (h1 | ⟨o, h1⟩) | ⟨o, its, n, h1, h2, _⟩
    · exact .base (.tup h1)
    · exact .fTuple h1
    · exact .kTuple (by rw [hK]; exact h1) h2
  | lst hf rs => cases h; exact .base (.lst (g.le _ _ hf))
  | @cell k a hk =>
    simp only [kindD] at h
    split at h
    · rename_i ys e1
      cases h
      obtain ⟨vs, h1, _⟩ := g.cel k a _ hk e1
      exact .base (.lst h1)
    · cases h
  | _ => cases h
theorem tyx_ins (o : IsOk X G) (hk : Kls X G) (g : Gd G F ca μ H) {d : D} {x : V} {c : Nat} {C : Kl} (r : Rp G F ca d x) (h : insC μ d = some c) (hc : G.T.cls[c]? = some C) (he : C.exc = false) : TyX X.K H x (.ref (G.cad c)) := by
  have ok := hk c C hc he
  obtain ⟨a, dx, fs, rfl, h1⟩ : ∃ a dx fs, x = .ref a ∧ H a = some (.ins (G.cad c) dx fs) := by
    cases r with
    | ins _ _ hf' _ => cases h; exact ⟨_, _, _, rfl, g.le _ _ hf'⟩
    | @cell k a hk =>
      simp only [insC] at h
      split at h
      · rename_i ys e1
        cases h
        obtain ⟨dx, vs, h1, _⟩ := g.cel k a _ hk e1
        exact ⟨a, dx, _, rfl, h1⟩
      · cases h
    | _ => cases h
  exact .base (.ins h1 ok.cl (o.ca c C hc he) o.cn o.ct ok.ob)
theorem isTy_ok (o : IsOk X G) (hK : X.K = G.K) (hk : Kls X G) (g : Gd G F ca μ H) {d : D} {x : V} (r : Rp G F ca d x) : (∃ tv, TyX X.K H x tv ∧ ∀ t b, tyIn G.T t = true → isTy G.T μ d t = some b → PySem.W.kitOne X.K tv (tyU G t) = some b) ∨ ∀ t, isTy G.T μ d t = none := by
  cases e : kindD μ d with
  | some κ => exact .inl ⟨_, tyx_kind hK g r e, fun t b ht h => by
      simp only [isTy, e] at h
      cases h
      exact isK_ok o ht⟩
  | none =>
    cases e2 : insC μ d with
    | none => exact .inr fun t => by simp only [isTy, e, e2]
    | some c =>
      cases e3 : G.T.cls[c]? with
      | none => exact .inr fun t => by simp only [isTy, e, e2, e3]
      | some C =>
        cases e4 : C.exc with
        | true => exact .inr fun t => by simp only [isTy, e, e2, e3, e4, if_true]
        | false => exact .inl ⟨_, tyx_ins o hk g r e2 e3 e4, fun t b ht h => by
            simp only [isTy, e, e2, e3, e4] at h
            cases h
            exact isC_ok o e3 e4 ht⟩
theorem anyTy_ok {tv : Value} {d : D} (h : ∀ t b, tyIn G.T t = true → isTy G.T μ d t = some b → PySem.W.kitOne X.K tv (tyU G t) = some b) : ∀ (ts : List Ty) (b : Bool), ts.all (tyIn G.T) = true → anyTy G.T μ d ts = some b → PySem.W.kitAny X.K tv (ts.map (tyU G)) = some b
  | [], b, _, e => by cases e; rfl
  | t :: ts, b, ha, e => by
    rw [List.all_cons, Bool.and_eq_true] at ha
    simp only [anyTy] at e
    split at e
    · rename_i e1
      cases e
      exact kitAny_cons (h t _ ha.1 e1) (fun z => nomatch z) fun _ => rfl
    · rename_i e1
      exact kitAny_cons (h t _ ha.1 e1) (fun _ => anyTy_ok h ts b ha.2 e) fun z => nomatch z
    · cases e
theorem pe_isiD (w : Wd X G cl k W) (o : IsOk X G) {e te : Expr} {ie : IE} {t : Ty} {x : Str} {p pos : Pos} (ht : tyIn G.T t = true) (hg : Gl X "isinstance") (hm : X.mg "isinstance" = none) (he : PE X e (tD G cl lo n ie W)) (hte : PE X te (tC (tyR G t)))
    (s1 : starEach [e, te] X.env = (false, eval e X.env) :: starEach [te] X.env) (s2 : starEach [te] X.env = (false, eval te X.env) :: starEach [] X.env) (hx : x = "isinstance") :
    PE X (.Call (.Name x p) [e, te] [] pos) (tD G cl lo (n + 1) (.isin ie [t]) W) := by
  subst hx
  refine PE.imp (pe_callB call_isi hg hm (by first | rfl | decide +kernel) (pa_cons he (pa_cons hte pa_nil s2) s1) (by decide) (by decide) s1 (by rw [s2]; rfl)) fun σ H Q ⟨F, ca, μ, env, hh, q⟩ => ?_
  simp only [evE] at q
  refine ⟨F, ca, μ, env, hh, (Pk.bind (R := Rp G) q).imp fun v H1 ⟨F1, ca1, μ1, d, x1, g1, r, q1⟩ => ?_⟩
  show rIsi X.K [v, tyR G t] H1 Q
  split at q1
  · rename_i b e1
    rcases isTy_ok o w.hK w.hk g1 r with ⟨tv, ty, h1⟩ | h1
    · have h2 : isTy G.T μ1 d t = some b := by
        simp only [anyTy] at e1
        split at e1
        · rename_i e2; rw [e2]; exact e1
        · rename_i e2; rw [e2]; exact e1
        · cases e1
      exact ⟨v, _, tv, _, b, rfl, tyR_cls G t, ty, h1 t b ht h2, q1.now g1 (.bl b)⟩
    · simp only [anyTy, h1] at e1
      cases e1
  · exact q1.elim
theorem tys_cls (G : Geo) : ∀ ts : List Ty, Paired ClsV (ts.map (tyR G)) (ts.map (tyU G))
  | [] => .nil
  | t :: ts => .cons (tyR_cls G t) (tys_cls G ts)
theorem pe_isiTD (w : Wd X G cl k W) (o : IsOk X G) {e : Expr} {tes : List Expr} {ie : IE} {ts : List Ty} {x : Str} {kk : Nat} {p tp pos : Pos} (ht : ts.all (tyIn G.T) = true) (hl : ts.length ≤ 100) (hne : ts ≠ []) (hg : Gl X "isinstance") (hm : X.mg "isinstance" = none) (he : PE X e (tD G cl lo n ie W)) (hte : PA X tes (fun _ H Q => Q (ts.map (tyR G)) H))
    (s1 : starEach [e, .Tuple tes kk tp] X.env = (false, eval e X.env) :: starEach [.Tuple tes kk tp] X.env) (s2 : starEach [.Tuple tes kk tp] X.env = (false, eval (.Tuple tes kk tp) X.env) :: starEach [] X.env) (hx : x = "isinstance") :
    PE X (.Call (.Name x p) [e, .Tuple tes kk tp] [] pos) (tD G cl lo (n + 1) (.isin ie ts) W) := by
  subst hx
  refine PE.imp (pe_callB call_isiT hg hm (by first | rfl | decide +kernel) (pa_cons he (pa_cons (pe_tup hte) pa_nil s2) s1) (by decide) (by decide) s1 (by rw [s2]; rfl)) fun σ H Q ⟨F, ca, μ, env, hh, q⟩ => ?_
  simp only [evE] at q
  refine ⟨F, ca, μ, env, hh, (Pk.bind (R := Rp G) q).imp fun v H1 ⟨F1, ca1, μ1, d, x1, g1, r, q1⟩ => ?_⟩
  refine ⟨by rw [List.length_map, sizeLine_eq]; omega, fun tp hp => ?_⟩
  show rIsiT X.K [v, .ref tp] _ Q
  split at q1
  · rename_i b e1
    have g2 := g1.other hp (.tup (ts.map (tyR G)))
    rcases isTy_ok o w.hK w.hk g2 r with ⟨tv, ty, h1⟩ | h1
    · refine ⟨v, tp, _, tv, _, b, rfl, upd_same, tys_cls G ts, ty, anyTy_ok h1 ts b ht e1, ?_⟩
      exact q1 (.bl b) F1 ca1 _ (Xt.other g1 hp _) g2 (.bl b)
    · cases ts with
      | nil =>
        exact absurd rfl hne
      | cons t ts =>
        simp only [anyTy, h1] at e1
        cases e1
  · exact q1.elim

/-! ### calls by name -/
/-- f(..), f a built-in function, a built-in type, a module's built-in -/
theorem pe_callBG {x : Str} {id : String} {e : Expr} {es : List Expr} {ies : List IE} {g : List D → Mu → Out D} {p pos : Pos} {ie : IE} (hc : Ca X G lo W (.builtin id) g) (hg : Gl X x) (hm : X.mg x = none) (hv : bootBuiltins x = some (.builtin id)) (hn : x ≠ "__name__") (hdb : (x == ("__debug__" : Str)) = false)
    (ha : PA X (e :: es) (tDs G cl lo n ies W)) (he : starEach (e :: es) X.env = (false, eval e X.env) :: starEach es X.env) (hpl : (backTo pos (starEach es X.env)).any (·.1) = false)
    (hev : ∀ env μ, evE G.T cl lo (n + 1) env ie μ = (evL (evE G.T cl lo n env) ies μ).bind g) : PE X (.Call (.Name x p) (e :: es) [] pos) (tD G cl lo (n + 1) ie W) := by
  refine ⟨fun pins s σ H Q I ⟨F, ca, μ, env, hh, q⟩ => ?_⟩
  rw [hev] at q
  refine wpAny_Call_Name_kw (ld_blt I hg hm hv ?_ hn hdb)
  exact PyProof.Rows.callWith_builtin1 (thn (ha.run pos pins s σ H _ I (lis_of hh q)) fun us s1 ⟨vs, H1, I1, r1, q1⟩ => hc pins s1 σ H1 vs us Q I1 r1 q1) he hpl
theorem pe_callTyG {x : Str} {id : String} {e : Expr} {es : List Expr} {ies : List IE} {g : List D → Mu → Out D} {p pos : Pos} {ie : IE} (hc : Ca X G lo W (.type id) g) (hg : Gl X x) (hm : X.mg x = none) (hv : bootBuiltins x = some (.type id)) (hn : x ≠ "__name__") (hdb : (x == ("__debug__" : Str)) = false)
    (ha : PA X (e :: es) (tDs G cl lo n ies W)) (he : starEach (e :: es) X.env = (false, eval e X.env) :: starEach es X.env) (hpl : (backTo pos (starEach es X.env)).any (·.1) = false)
    (hev : ∀ env μ, evE G.T cl lo (n + 1) env ie μ = (evL (evE G.T cl lo n env) ies μ).bind g) : PE X (.Call (.Name x p) (e :: es) [] pos) (tD G cl lo (n + 1) ie W) := by
  refine ⟨fun pins s σ H Q I ⟨F, ca, μ, env, hh, q⟩ => ?_⟩
  rw [hev] at q
  refine wpAny_Call_Name_kw (ld_blt I hg hm hv ?_ hn hdb)
  exact PyProof.Rows.callWith_type1 (thn (ha.run pos pins s σ H _ I (lis_of hh q)) fun us s1 ⟨vs, H1, I1, r1, q1⟩ => hc pins s1 σ H1 vs us Q I1 r1 q1) he hpl
theorem pe_callBfG {x : Str} {id : String} {e : Expr} {es : List Expr} {ies : List IE} {g : List D → Mu → Out D} {p pos : Pos} {ie : IE} (hc : Ca X G lo W (.builtin id) g) (hg : Gl X x) (hm : X.mg x = some (.builtin id)) (hdb : (x == ("__debug__" : Str)) = false)
    (ha : PA X (e :: es) (tDs G cl lo n ies W)) (he : starEach (e :: es) X.env = (false, eval e X.env) :: starEach es X.env) (hpl : (backTo pos (starEach es X.env)).any (·.1) = false)
    (hev : ∀ env μ, evE G.T cl lo (n + 1) env ie μ = (evL (evE G.T cl lo n env) ies μ).bind g) : PE X (.Call (.Name x p) (e :: es) [] pos) (tD G cl lo (n + 1) ie W) := by
  refine ⟨fun pins s σ H Q I ⟨F, ca, μ, env, hh, q⟩ => ?_⟩
  rw [hev] at q
  refine wpAny_Call_Name_kw (ld_glob I hg hm ?_ hdb)
  exact PyProof.Rows.callWith_builtin1 (thn (ha.run pos pins s σ H _ I (lis_of hh q)) fun us s1 ⟨vs, H1, I1, r1, q1⟩ => hc pins s1 σ H1 vs us Q I1 r1 q1) he hpl
/-- what a slot holds that is called -/
theorem callV_of (w : Wd X G cl k W) {d : D} {v : V} (rd : Rp G F ca d v) (h : okV G.T d = true) :
    ∃ a, v = .ref a ∧ PySem.W.keepIn X.K (.ref a) = true ∧ Ca X G lo W (.ref a) (callV G.T cl lo d) := by
  cases rd with
  | fn i =>
    simp only [okV, Option.isSome_iff_exists] at h
    obtain ⟨Fn, e⟩ := h
    obtain ⟨fd, ps, _, kp, _⟩ := w.hF.ok i Fn e
    exact ⟨_, rfl, kp, fun pins s σ H xs us Q I r q => fn_runA w.hF w.room0 rfl i (w.hx σ) I r q⟩
  | cls c =>
    simp only [okV] at h
    split at h
    · rename_i C e
      have ok := w.hk c C e (by simpa using h)
      exact ⟨_, rfl, ok.mkr.kp, make_run w.hK w.hF (w.rm.mono (by omega)) w.hx e ok.mkr⟩
    · cases h
  | _ => cases h
theorem pe_callvD (w : Wd X G cl k W) {i : Nat} {x : Str} {e : Expr} {es : List Expr} {ies : List IE} {p pos : Pos} (hN : X.N[i]? = some x) (hv : Vis X.env.scope x) (hdb : (x == ("__debug__" : Str)) = false) (hcd : (x == ("__classdict__" : Str)) = false)
    (ha : PA X (e :: es) (tDs G cl lo n ies W)) (he : starEach (e :: es) X.env = (false, eval e X.env) :: starEach es X.env) (hpl : (backTo pos (starEach es X.env)).any (·.1) = false) : PE X (.Call (.Name x p) (e :: es) [] pos) (tD G cl lo (n + 1) (.callv i ies) W) := by
  refine ⟨fun pins s σ H Q I ⟨F, ca, μ, env, hh, q⟩ => ?_⟩
  simp only [evE] at q
  split at q
  · rename_i f e1
    obtain ⟨v, e2, rf⟩ := hh.e.get i f e1
    split at q
    · rename_i hok
      obtain ⟨a, rfl, kp, hca⟩ := callV_of (lo := lo) w rf hok
      refine wpAny_Call_Name_kw (thn ((pe_var (pos := p) hN hv hdb hcd).run pins s σ H (fun v' H1 => v' = .ref a ∧ H1 = H) I ⟨_, e2, rfl, rfl⟩) fun u' s1 ⟨v', H1, I1, r1, q1⟩ => ?_)
      obtain ⟨rfl, rfl⟩ := q1
      cases r1
      refine PySem.W.callWith_K (h₀ := X.base) I.ok.mod.kin kp (thn (ha.run pos pins s1 σ _ _ I1 (lis_of hh q)) fun us s2 ⟨vs, H2, I2, r, q2⟩ => ⟨I2.kIn, ?_⟩) he hpl
      exact hca pins s2 σ H2 vs us Q I2 r q2
    · exact q.elim
  · exact q.elim
end
end Sd

set_option Elab.async false
set_option linter.all false
set_option maxRecDepth 100000
set_option maxHeartbeats 4000000
/-! Sd14: what is walked. -/
namespace Sd
open PySem PySem.Spec PyProof.Rows L2 Pi
/-- a walk gives the items, as long as what it walks stands -/
def Wko (G : Geo) (lo : Nat) (J : It) (q : List D × Chk) (F : Hp) (ca : List Addr) (μ : Mu) (H : Hp) : Prop :=
  ∀ F' ca' μ' H', Le F F' → Pre ca ca' → Gd G F' ca' μ' H' → chkG q.2 μ' = true → J.stop q.1.length H' ∧
    ∀ i d, q.1[i]? = some d → J.go i H' ∧ ∀ x H'', J.yld i H' x H'' → ∃ F'', Xt lo F' ca' μ' H' F'' ca' μ' H'' ∧ Gd G F'' ca' μ' H'' ∧ Rp G F'' ca' d x
def PkI (G : Geo) (lo : Nat) (F : Hp) (ca : List Addr) (μ : Mu) (H : Hp) (o : Out (List D × Chk)) (σ : L2.St) (R : It → Hp → Prop) (W : WX) : Prop := match o with
  | .ok q μ' => ∀ J F' ca' H', Xt lo F ca μ H F' ca' μ' H' → Gd G F' ca' μ' H' → Wko G lo J q F' ca' μ' H' → R J H'
  | .ex c fs μ' => ∀ d F' ca' H', Xt lo F ca μ H F' ca' μ' H' → Gd G F' ca' μ' H' → ExAt G F' ca' H' c fs d → W (.ref (G.cad c)) d σ H'
  | .stuck => False
def tDi (G : Geo) (cl : Cll) (lo n : Nat) (it : Wk IE) (W : WX) : TI := fun σ H R => ∃ F ca μ env, Here G lo F ca μ H env σ ∧ PkI G lo F ca μ H (evI (evE G.T cl lo n env) it μ) σ R W
theorem PI.imp {X : Cx} {tg e : Expr} {t t' : TI} (h : PI X tg e t) (i : ∀ σ H Q, t' σ H Q → t σ H Q) : PI X tg e t' := ⟨fun pins s σ H R I q => h.run pins s σ H R I (i σ H R q)⟩
section
variable {G : Geo} {cl : Cll} {lo n m k : Nat} {F F' H H' : Hp} {ca ca' : List Addr} {μ μ' : Mu} {σ : L2.St} {W : WX} {X : Cx} {pins : List (Addr × Obj)} {s : Shared} {c : Bool}
theorem PkI.step {o : Out (List D × Chk)} {R : It → Hp → Prop} (x : Xt lo F ca μ H F' ca' μ' H') (h : PkI G lo F ca μ H o σ R W) : PkI G lo F' ca' μ' H' o σ R W := by
  cases o with
  | ok a m => exact fun b F2 ca2 H2 y g r => h b F2 ca2 H2 (x.trans y) g r
  | ex c fs m => exact fun d F2 ca2 H2 y g r => h d F2 ca2 H2 (x.trans y) g r
  | stuck => exact h
theorem PkI.bind {α β : Type} {R : Hp → List Addr → α → β → Prop} {o : Out α} {f : α → Mu → Out (List D × Chk)} {Q : It → Hp → Prop} (h : PkI G lo F ca μ H (o.bind f) σ Q W) :
    Pk G lo R F ca μ H o σ (fun b H1 => ∃ F1 ca1 μ1 a, Xt lo F ca μ H F1 ca1 μ1 H1 ∧ Gd G F1 ca1 μ1 H1 ∧ R F1 ca1 a b ∧ PkI G lo F1 ca1 μ1 H1 (f a μ1) σ Q W) W := by
  cases o with
  | ok a m => exact fun b F2 ca2 H2 y g r => ⟨F2, ca2, m, a, y, g, r, PkI.step y h⟩
  | ex c fs m => exact h
  | stuck => exact h
/-- what is walked stands -/
theorem guard_at {d : D} {x : V} {q : List D × Chk} (g : Gd G F ca μ H) (r : Rp G F ca d x) (h : Pi.guard μ d = some q) :
    ∃ a, x = .ref a ∧ ((isTup d = false ∧ ∀ F' ca' μ' H', Le F F' → Pre ca ca' → Gd G F' ca' μ' H' → chkG q.2 μ' = true → ∃ vs, SqL G.K H' a vs ∧ Rps G F' ca' q.1 vs) ∨
      (isTup d = true ∧ ∀ F' ca' μ' H', Le F F' → Pre ca ca' → Gd G F' ca' μ' H' → chkG q.2 μ' = true → ∃ vs, SqT G.K H' a vs ∧ Rps G F' ca' q.1 vs)) := by
  cases r with
  | tup hs rs =>
    cases h
    exact ⟨_, rfl, .inr ⟨rfl, fun F' ca' μ' H' l p g' _ => ⟨_, sqT_le (sqT_le hs l) g'.le, Rps.mono l p rs⟩⟩⟩
  | lst hf rs =>
    cases h
    exact ⟨_, rfl, .inl ⟨rfl, fun F' ca' μ' H' l p g' _ => ⟨_, .inl (.inl (g'.le _ _ (l _ _ hf))), Rps.mono l p rs⟩⟩⟩
  | arg hs rs =>
    cases h
    exact ⟨_, rfl, .inl ⟨rfl, fun F' ca' μ' H' l p g' _ => ⟨_, sqL_le (sqL_le hs l) g'.le, Rps.mono l p rs⟩⟩⟩
  | @cell k a hk =>
    simp only [Pi.guard] at h
    split at h
    · rename_i xs e1
      cases h
      refine ⟨a, rfl, .inl ⟨rfl, fun F' ca' μ' H' l p g' hc => ?_⟩⟩
      simp only [chkG, List.all_cons, List.all_nil, Bool.and_true, decide_eq_true_eq] at hc
      obtain ⟨vs, h1, h2⟩ := g'.cel k a _ (p _ _ hk) hc
      exact ⟨vs, .inl (.inl h1), h2⟩
    · cases h
  | _ => cases h
theorem wk_seqL {a : Addr} {q : List D × Chk} (h : ∀ F' ca' μ' H', Le F F' → Pre ca ca' → Gd G F' ca' μ' H' → chkG q.2 μ' = true → ∃ vs, SqL G.K H' a vs ∧ Rps G F' ca' q.1 vs) : Wko G lo (Itl G.K a) q F ca μ H := by
  intro F' ca' μ' H' l p0 g hc
  obtain ⟨vs, h1, h2⟩ := h F' ca' μ' H' l p0 g hc
  refine ⟨⟨vs, h1, by rw [h2.length]; exact Nat.le_refl _⟩, fun i d e => ?_⟩
  obtain ⟨v, e1, r1⟩ := h2.get e
  exact ⟨⟨vs, v, h1, e1⟩, fun y H'' hy => by
    obtain ⟨rfl, hy⟩ := hy
    have := hy vs h1
    rw [e1] at this
    cases this
    exact ⟨F', Xt.rfl', g, r1⟩⟩
theorem wk_seqT {a : Addr} {q : List D × Chk} (h : ∀ F' ca' μ' H', Le F F' → Pre ca ca' → Gd G F' ca' μ' H' → chkG q.2 μ' = true → ∃ vs, SqT G.K H' a vs ∧ Rps G F' ca' q.1 vs) : Wko G lo (Itt G.K a) q F ca μ H := by
  intro F' ca' μ' H' l p0 g hc
  obtain ⟨vs, h1, h2⟩ := h F' ca' μ' H' l p0 g hc
  refine ⟨⟨vs, h1, by rw [h2.length]; exact Nat.le_refl _⟩, fun i d e => ?_⟩
  obtain ⟨v, e1, r1⟩ := h2.get e
  exact ⟨⟨vs, v, h1, e1⟩, fun y H'' hy => by
    obtain ⟨rfl, hy⟩ := hy
    have := hy vs h1
    rw [e1] at this
    cases this
    exact ⟨F', Xt.rfl', g, r1⟩⟩
/-- a list or a tuple -/
def iSeq (K : PySem.W.Frag) (tl : TE) : TI := fun σ H R => tl σ H fun x H1 => ∃ a, x = .ref a ∧ (((∃ xs, SqL K H1 a xs) ∧ R (Itl K a) H1) ∨ ((∃ xs, SqT K H1 a xs) ∧ R (Itt K a) H1))
theorem pi_seq {tg l : Expr} {tl : TE} (hl : PE X l tl) : PI X tg l (iSeq X.K tl) := by
  refine ⟨fun pins s σ H R I h => ?_⟩
  refine thn (hl.run pins s σ H _ I h) fun v s1 ⟨x, H1, I1, r1, a, e, q⟩ => ?_
  subst e
  cases r1
  have fin : ∀ b ∈ [s1.heap.objs.size], FpOk X pins H1 b := fun b hb => by
    have e : b = s1.heap.objs.size := by simpa using hb
    subst e
    exact I1.fpOk (Nat.le_refl _) (I1.hok.fresh (Nat.le_refl _))
  rcases q with ⟨⟨xs, hq⟩, q⟩ | ⟨⟨xs, hq⟩, q⟩
  · obtain ⟨its, rv, p, hz⟩ := I1.list hq
    exact wpAny_pyIter_list p.isList ⟨s1.heap.objs.size, [s1.heap.objs.size], _, _, H1, rfl, I1.kept (t' := s1.toks) fun b o e => Heap.get?_push_of_some _ e, turn_list a _, ⟨_, Heap.get?_push_size _ rfl, rfl, rfl⟩, fin, q⟩
  · obtain ⟨its, rv, p, hz⟩ := I1.tuple hq
    exact wpAny_pyIter_tuple (show s1.heap.IsTuple a its.toArray from p) ⟨s1.heap.objs.size, [s1.heap.objs.size], _, _, H1, rfl, I1.kept (t' := s1.toks) fun b o e => Heap.get?_push_of_some _ e, turn_tuple a _, ⟨_, Heap.get?_push_size _ rfl, rfl, rfl⟩, fin, q⟩
theorem pi_seqD (hK : X.K = G.K) {tg e : Expr} {ie : IE} (h : PE X e (tD G cl lo n ie W)) : PI X tg e (tDi G cl lo n (.seq ie) W) := by
  refine PI.imp (pi_seq h) fun σ H R ⟨F, ca, μ, env, hh, q⟩ => ⟨F, ca, μ, env, hh, ?_⟩
  simp only [evI] at q
  refine (PkI.bind (R := Rp G) q).imp fun v H1 ⟨F1, ca1, μ1, d, x1, g1, r, q1⟩ => ?_
  split at q1
  · rename_i p e1
    obtain ⟨a, rfl, h1⟩ := guard_at g1 r e1
    refine ⟨a, rfl, ?_⟩
    rw [hK]
    have hc : chkG p.2 μ1 = true := by
      cases r with
      | @cell k b hk =>
        simp only [Pi.guard] at e1
        split at e1
        · rename_i xs e2
          cases e1
          simp [chkG, e2]
        · cases e1
      | tup _ _ => cases e1; rfl
      | lst _ _ => cases e1; rfl
      | arg _ _ => cases e1; rfl
      | _ => cases e1
    rcases h1 with ⟨_, h1⟩ | ⟨_, h1⟩
    · obtain ⟨vs, h2, _⟩ := h1 F1 ca1 μ1 H1 Le.rfl' Pre.rfl' g1 hc
      exact .inl ⟨⟨vs, h2⟩, q1 _ F1 ca1 H1 Xt.rfl' g1 (wk_seqL h1)⟩
    · obtain ⟨vs, h2, _⟩ := h1 F1 ca1 μ1 H1 Le.rfl' Pre.rfl' g1 hc
      exact .inr ⟨⟨vs, h2⟩, q1 _ F1 ca1 H1 Xt.rfl' g1 (wk_seqT h1)⟩
  · exact q1.elim
theorem countUp_get {lo' c : Int} : ∀ {m i : Nat} {d : D}, (countUp lo' c m)[i]? = some d → i < m ∧ d = .int (lo' + i * c)
  | 0, i, d, h => by simp [countUp] at h
  | m + 1, 0, d, h => by simp [countUp] at h; subst h; simp
  | m + 1, i + 1, d, h => by
    simp only [countUp, List.getElem?_cons_succ] at h
    obtain ⟨h1, rfl⟩ := countUp_get h
    refine ⟨by omega, ?_⟩
    congr 1
    rw [Int.natCast_add, Int.add_mul]
    simp
    omega
theorem countUp_len {lo' c : Int} : ∀ {m : Nat}, (countUp lo' c m).length = m
  | 0 => rfl
  | m + 1 => by simp [countUp, countUp_len]
theorem wk_range {lo' : Int} {m : Nat} : Wko G lo (Itr lo' m) (countUp lo' 1 m, []) F ca μ H := fun F' ca' μ' H' l p0 g _ => by
  refine ⟨by show m ≤ _; rw [countUp_len]; exact Nat.le_refl _, fun i d e => ?_⟩
  obtain ⟨h1, rfl⟩ := countUp_get e
  refine ⟨h1, fun y H'' hy => ?_⟩
  obtain ⟨rfl, rfl⟩ := hy
  rw [Int.mul_one]
  exact ⟨F', Xt.rfl', g, .int _⟩
theorem wk_rangeC {lo' c : Int} {m : Nat} : Wko G lo (Itc lo' c m) (countUp lo' c m, []) F ca μ H := fun F' ca' μ' H' l p0 g _ => by
  refine ⟨by show m ≤ _; rw [countUp_len]; exact Nat.le_refl _, fun i d e => ?_⟩
  obtain ⟨h1, rfl⟩ := countUp_get e
  refine ⟨h1, fun y H'' hy => ?_⟩
  obtain ⟨rfl, rfl⟩ := hy
  exact ⟨F', Xt.rfl', g, .int _⟩
theorem okR2 {i : Int} (h : okR i = true) : -(2 ^ 62) ≤ i ∧ i < 2 ^ 62 := by
  simp only [Pi.okR, Bool.and_eq_true, decide_eq_true_eq] at h
  have e : rangeLine = 4611686018427387904 := rfl
  omega
theorem pi_r1D {tg a : Expr} {ia : IE} {p pos : Pos} (hg : Gl X "range") (hm : X.mg "range" = none) (ha : PA X [a] (tDs G cl lo n [ia] W)) (hs : starEach [a] X.env = [(false, eval a X.env)]) : PI X tg (.Call (.Name "range" p) [a] [] pos) (tDi G cl lo n (.range [ia]) W) := by
  refine PI.imp (pi_range1 hg hm ha hs) fun σ H R ⟨F, ca, μ, env, hh, q⟩ => ⟨F, ca, μ, env, hh, ?_⟩
  simp only [evI] at q
  refine (PkI.bind (R := Rps G) q).imp fun v H1 ⟨F1, ca1, μ1, ds, x1, g1, r, q1⟩ => ?_
  split at q1
  · rename_i hl
    match ds, hl with
    | [d], _ =>
      obtain ⟨v, rfl, r1⟩ := rps1 r
      cases r1 <;> first | exact q1.elim | skip
      simp only [rangeD] at q1
      split at q1
      · rename_i e1
        split at e1
        · rename_i e2
          cases e1
          obtain ⟨k1, k2⟩ := okR2 e2
          exact ⟨_, rfl, k1, k2, q1 _ F1 ca1 H1 Xt.rfl' g1 wk_range⟩
        · cases e1
      · exact q1.elim
  · exact q1.elim
theorem pi_r2D {tg a b : Expr} {ia ib : IE} {p pos : Pos} (hg : Gl X "range") (hm : X.mg "range" = none) (ha : PA X [a, b] (tDs G cl lo n [ia, ib] W)) (hs : starEach [a, b] X.env = [(false, eval a X.env), (false, eval b X.env)]) (hs2 : starEach [b] X.env = [(false, eval b X.env)]) : PI X tg (.Call (.Name "range" p) [a, b] [] pos) (tDi G cl lo n (.range [ia, ib]) W) := by
  refine PI.imp (pi_range2 hg hm ha hs hs2) fun σ H R ⟨F, ca, μ, env, hh, q⟩ => ⟨F, ca, μ, env, hh, ?_⟩
  simp only [evI] at q
  refine (PkI.bind (R := Rps G) q).imp fun v H1 ⟨F1, ca1, μ1, ds, x1, g1, r, q1⟩ => ?_
  split at q1
  · rename_i hl
    match ds, hl with
    | [d, e], _ =>
      obtain ⟨v, w, rfl, r1, r2⟩ := rps2 r
      cases r1 <;> first | exact q1.elim | skip
      cases r2 <;> first | exact q1.elim | skip
      simp only [rangeD] at q1
      split at q1
      · rename_i e1
        split at e1
        · rename_i e2
          cases e1
          rw [Bool.and_eq_true] at e2
          obtain ⟨k1, k2⟩ := okR2 e2.1
          obtain ⟨k3, k4⟩ := okR2 e2.2
          exact ⟨_, _, rfl, ⟨k1, k2, k3, k4⟩, q1 _ F1 ca1 H1 Xt.rfl' g1 wk_range⟩
        · cases e1
      · exact q1.elim
  · exact q1.elim
theorem pi_r3D {tg a b c : Expr} {ia ib ic : IE} {p pos : Pos} (hg : Gl X "range") (hm : X.mg "range" = none) (ha : PA X [a, b, c] (tDs G cl lo n [ia, ib, ic] W)) (hs : starEach [a, b, c] X.env = (false, eval a X.env) :: starEach [b, c] X.env) (hs2 : (backTo pos (starEach [b, c] X.env)).any (·.1) = false) : PI X tg (.Call (.Name "range" p) [a, b, c] [] pos) (tDi G cl lo n (.range [ia, ib, ic]) W) := by
  refine PI.imp (pi_range3 hg hm ha hs hs2) fun σ H R ⟨F, ca, μ, env, hh, q⟩ => ⟨F, ca, μ, env, hh, ?_⟩
  simp only [evI] at q
  refine (PkI.bind (R := Rps G) q).imp fun v H1 ⟨F1, ca1, μ1, ds, x1, g1, r, q1⟩ => ?_
  split at q1
  · rename_i hl
    match ds, hl with
    | [d, e, f], _ =>
      cases r with
      | cons r1 t =>
        obtain ⟨v, w, rfl, r2, r3⟩ := rps2 t
        cases r1 <;> first | exact q1.elim | skip
        cases r2 <;> first | exact q1.elim | skip
        cases r3 <;> first | exact q1.elim | skip
        simp only [rangeD] at q1
        split at q1
        · rename_i e1
          split at e1
          · rename_i e2
            cases e1
            obtain ⟨rfl, e3, e4⟩ := e2
            obtain ⟨k1, k2⟩ := okR2 e3
            obtain ⟨k3, k4⟩ := okR2 e4
            exact ⟨_, _, _, _, rfl, RgC.neg k1 k2 k3 k4, q1 _ F1 ca1 H1 Xt.rfl' g1 wk_rangeC⟩
          · cases e1
        · exact q1.elim
  · exact q1.elim
/-- pairs that are laid -/
theorem wk_zipL {a b : Addr} {p q : List D × Chk} (h : ∀ F' ca' μ' H', Le F F' → Pre ca ca' → Gd G F' ca' μ' H' → chkG p.2 μ' = true → ∃ vs, SqL G.K H' a vs ∧ Rps G F' ca' p.1 vs) (h' : ∀ F' ca' μ' H', Le F F' → Pre ca ca' → Gd G F' ca' μ' H' → chkG q.2 μ' = true → ∃ vs, SqL G.K H' b vs ∧ Rps G F' ca' q.1 vs) :
    Wko G lo (Itz G.K a b) (List.zipWith pair p.1 q.1, p.2 ++ q.2) F ca μ H := by
  intro F' ca' μ' H' l p0 g hc
  simp only [chkG, List.all_append, Bool.and_eq_true] at hc
  obtain ⟨vs, h1, h2⟩ := h F' ca' μ' H' l p0 g hc.1
  obtain ⟨ws, h3, h4⟩ := h' F' ca' μ' H' l p0 g hc.2
  refine ⟨⟨vs, ws, h1, h3, ?_⟩, fun i d e => ?_⟩
  · show vs.length ≤ (List.zipWith pair p.1 q.1).length ∨ ws.length ≤ (List.zipWith pair p.1 q.1).length
    rw [List.length_zipWith, h2.length, h4.length]
    omega
  · have e0 : (List.zipWith pair p.1 q.1)[i]? = some d := e
    rw [List.getElem?_zipWith] at e0
    cases e1 : p.1[i]? with
    | none => rw [e1] at e0; cases e0
    | some d1 =>
      cases e2 : q.1[i]? with
      | none => rw [e1, e2] at e0; cases e0
      | some d2 =>
        rw [e1, e2] at e0
        cases e0
        obtain ⟨v, k1, r1⟩ := h2.get e1
        obtain ⟨w, k2, r2⟩ := h4.get e2
        refine ⟨⟨vs, ws, v, w, h1, h3, k1, k2⟩, fun y H'' hy => ?_⟩
        obtain ⟨T, x', y', rfl, hT, rfl, z1, z2⟩ := hy
        have := z1 vs h1
        rw [k1] at this
        cases this
        have := z2 ws h3
        rw [k2] at this
        cases this
        have hF := g.none_of hT
        exact ⟨_, Xt.laid g hT _, g.laid hT _, .tup (.inl (.inl upd_same)) (.cons (Rp.mono (upd_le hF) Pre.rfl' r1) (.cons (Rp.mono (upd_le hF) Pre.rfl' r2) .nil))⟩
theorem wk_zipT {a b : Addr} {p q : List D × Chk} (h : ∀ F' ca' μ' H', Le F F' → Pre ca ca' → Gd G F' ca' μ' H' → chkG p.2 μ' = true → ∃ vs, SqT G.K H' a vs ∧ Rps G F' ca' p.1 vs) (h' : ∀ F' ca' μ' H', Le F F' → Pre ca ca' → Gd G F' ca' μ' H' → chkG q.2 μ' = true → ∃ vs, SqT G.K H' b vs ∧ Rps G F' ca' q.1 vs) :
    Wko G lo (RZ.ItzT G.K a b) (List.zipWith pair p.1 q.1, p.2 ++ q.2) F ca μ H := by
  intro F' ca' μ' H' l p0 g hc
  simp only [chkG, List.all_append, Bool.and_eq_true] at hc
  obtain ⟨vs, h1, h2⟩ := h F' ca' μ' H' l p0 g hc.1
  obtain ⟨ws, h3, h4⟩ := h' F' ca' μ' H' l p0 g hc.2
  refine ⟨⟨vs, ws, h1, h3, ?_⟩, fun i d e => ?_⟩
  · show vs.length ≤ (List.zipWith pair p.1 q.1).length ∨ ws.length ≤ (List.zipWith pair p.1 q.1).length
    rw [List.length_zipWith, h2.length, h4.length]
    omega
  · have e0 : (List.zipWith pair p.1 q.1)[i]? = some d := e
    rw [List.getElem?_zipWith] at e0
    cases e1 : p.1[i]? with
    | none => rw [e1] at e0; cases e0
    | some d1 =>
      cases e2 : q.1[i]? with
      | none => rw [e1, e2] at e0; cases e0
      | some d2 =>
        rw [e1, e2] at e0
        cases e0
        obtain ⟨v, k1, r1⟩ := h2.get e1
        obtain ⟨w, k2, r2⟩ := h4.get e2
        refine ⟨⟨vs, ws, v, w, h1, h3, k1, k2⟩, fun y H'' hy => ?_⟩
        obtain ⟨T, x', y', rfl, hT, rfl, z1, z2⟩ := hy
        have := z1 vs h1
        rw [k1] at this
        cases this
        have := z2 ws h3
        rw [k2] at this
        cases this
        have hF := g.none_of hT
        exact ⟨_, Xt.laid g hT _, g.laid hT _, .tup (.inl (.inl upd_same)) (.cons (Rp.mono (upd_le hF) Pre.rfl' r1) (.cons (Rp.mono (upd_le hF) Pre.rfl' r2) .nil))⟩
theorem guard_chk {d : D} {q : List D × Chk} (e1 : Pi.guard μ d = some q) : chkG q.2 μ = true := by
  cases d with
  | cell k =>
    simp only [Pi.guard] at e1
    split at e1
    · rename_i xs e2
      cases e1
      simp [chkG, e2]
    · cases e1
  | tup _ => cases e1; rfl
  | lst _ => cases e1; rfl
  | arg _ => cases e1; rfl
  | _ => cases e1
theorem pi_zipD (hK : X.K = G.K) {a b : Expr} {ia ib : IE} {p pos tpos : Pos} {elts : List Expr} {kk : Nat} (hg : Gl X "zip") (hm : X.mg "zip" = none) (ha : PE X a (tD G cl lo n ia W)) (hb : PE X b (tD G cl lo n ib W)) (hs : starEach [a, b] X.env = (false, eval a X.env) :: starEach [b] X.env) (hs2 : starEach [b] X.env = (false, eval b X.env) :: starEach [] X.env) :
    PI X (.Tuple elts kk tpos) (.Call (.Name "zip" p) [a, b] [] pos) (tDi G cl lo n (.zip ia ib) W) := by
  refine PI.imp (RZ.pi_zipA hg hm (pa_cons ha (pa_cons hb pa_nil hs2) hs) hs (by rw [hs2]; rfl)) fun σ H R ⟨F, ca, μ, env, hh, q⟩ => ⟨F, ca, μ, env, hh, ?_⟩
  simp only [evI] at q
  refine (PkI.bind (R := Rp G) q).imp fun v H1 ⟨F1, ca1, μ1, d, x1, g1, r, q1⟩ => ⟨F1, ca1, μ1, env, hh.step x1 g1, ?_⟩
  refine (PkI.bind (R := Rp G) q1).imp fun w H2 ⟨F2, ca2, μ2, e, x2, g2, r2, q2⟩ => ?_
  split at q2
  · rename_i p' q' e1 e2
    split at q2
    · rename_i e3
      have r1 := Rp.mono x2.fle x2.pre r
      obtain ⟨a, rfl, h1⟩ := guard_at g2 r1 e1
      obtain ⟨b, rfl, h2⟩ := guard_at g2 r2 e2
      show ∃ a' b' xs ys, [V.ref a, V.ref b] = [.ref a', .ref b'] ∧ _
      rw [hK]
      rcases h1 with ⟨t1, h1⟩ | ⟨t1, h1⟩ <;> rcases h2 with ⟨t2, h2⟩ | ⟨t2, h2⟩
      · obtain ⟨vs, k1, _⟩ := h1 F2 ca2 μ2 H2 Le.rfl' Pre.rfl' g2 (guard_chk e1)
        obtain ⟨ws, k2, _⟩ := h2 F2 ca2 μ2 H2 Le.rfl' Pre.rfl' g2 (guard_chk e2)
        exact ⟨a, b, vs, ws, rfl, .inl ⟨k1, k2, q2 _ F2 ca2 H2 Xt.rfl' g2 (wk_zipL h1 h2)⟩⟩
      · rw [t1, t2] at e3; cases e3
      · rw [t1, t2] at e3; cases e3
      · obtain ⟨vs, k1, _⟩ := h1 F2 ca2 μ2 H2 Le.rfl' Pre.rfl' g2 (guard_chk e1)
        obtain ⟨ws, k2, _⟩ := h2 F2 ca2 μ2 H2 Le.rfl' Pre.rfl' g2 (guard_chk e2)
        exact ⟨a, b, vs, ws, rfl, .inr ⟨k1, k2, q2 _ F2 ca2 H2 Xt.rfl' g2 (wk_zipT h1 h2)⟩⟩
    · exact q2.elim
  · exact q2.elim
theorem enumL_get : ∀ {xs : List D} {j i : Nat} {d : D}, (enumL j xs)[i]? = some d → ∃ e, xs[i]? = some e ∧ d = .tup [.int ((j + i : Nat) : Int), e]
  | [], j, i, d, h => by simp [enumL] at h
  | x :: xs, j, 0, d, h => by simp [enumL] at h; subst h; exact ⟨x, rfl, by simp⟩
  | x :: xs, j, i + 1, d, h => by
    simp only [enumL, List.getElem?_cons_succ] at h
    obtain ⟨e, h1, rfl⟩ := enumL_get h
    exact ⟨e, by simpa using h1, by congr 4; omega⟩
theorem enumL_len : ∀ {xs : List D} {j : Nat}, (enumL j xs).length = xs.length
  | [], _ => rfl
  | x :: xs, j => by simp [enumL, enumL_len]
theorem wk_enum {a : Addr} {p : List D × Chk} (h : ∀ F' ca' μ' H', Le F F' → Pre ca ca' → Gd G F' ca' μ' H' → chkG p.2 μ' = true → ∃ vs, SqL G.K H' a vs ∧ Rps G F' ca' p.1 vs) :
    Wko G lo (Ite G.K a) (enumL 0 p.1, p.2) F ca μ H := by
  intro F' ca' μ' H' l p0 g hc
  obtain ⟨vs, h1, h2⟩ := h F' ca' μ' H' l p0 g hc
  refine ⟨⟨vs, h1, by show vs.length ≤ (enumL 0 p.1).length; rw [enumL_len, h2.length]; exact Nat.le_refl _⟩, fun i d e => ?_⟩
  obtain ⟨d1, e1, rfl⟩ := enumL_get e
  obtain ⟨v, k1, r1⟩ := h2.get e1
  refine ⟨⟨vs, v, h1, k1⟩, fun y H'' hy => ?_⟩
  obtain ⟨T, x', rfl, hT, rfl, z1⟩ := hy
  have := z1 vs h1
  rw [k1] at this
  cases this
  have hF := g.none_of hT
  rw [Nat.zero_add]
  exact ⟨_, Xt.laid g hT _, g.laid hT _, .tup (.inl (.inl upd_same)) (.cons (.int _) (.cons (Rp.mono (upd_le hF) Pre.rfl' r1) .nil))⟩
theorem pi_enumD (hK : X.K = G.K) {a : Expr} {ia : IE} {p pos tpos : Pos} {elts : List Expr} {kk : Nat} (hg : Gl X "enumerate") (hm : X.mg "enumerate" = none) (ha : PE X a (tD G cl lo n ia W)) (hs : starEach [a] X.env = [(false, eval a X.env)]) :
    PI X (.Tuple elts kk tpos) (.Call (.Name "enumerate" p) [a] [] pos) (tDi G cl lo n (.enum ia) W) := by
  refine PI.imp (pi_enum hg hm (pa_cons ha pa_nil hs) hs) fun σ H R ⟨F, ca, μ, env, hh, q⟩ => ⟨F, ca, μ, env, hh, ?_⟩
  simp only [evI] at q
  refine (PkI.bind (R := Rp G) q).imp fun v H1 ⟨F1, ca1, μ1, d, x1, g1, r, q1⟩ => ?_
  split at q1
  · rename_i p' e1
    split at q1
    · exact q1.elim
    · rename_i e3
      obtain ⟨a, rfl, h1⟩ := guard_at g1 r e1
      show ∃ a' xs, [V.ref a] = [.ref a'] ∧ _
      rw [hK]
      rcases h1 with ⟨t1, h1⟩ | ⟨t1, h1⟩
      · obtain ⟨vs, k1, _⟩ := h1 F1 ca1 μ1 H1 Le.rfl' Pre.rfl' g1 (guard_chk e1)
        exact ⟨a, vs, rfl, k1, q1 _ F1 ca1 H1 Xt.rfl' g1 (wk_enum h1)⟩
      · exact absurd t1 e3
  · exact q1.elim
end
end Sd

set_option Elab.async false
set_option linter.all false
set_option maxRecDepth 100000
set_option maxHeartbeats 4000000
/-! Sd15: targets of walks, comprehensions. -/
namespace Sd
open PySem PySem.Spec PyProof.Rows L2 Pi
theorem wipe_get (σ : L2.St) : ∀ (vs : List Nat) (j : Nat), (L2.wipe σ vs)[j]? = if j ∈ vs ∧ j < σ.length then some none else σ[j]?
  | [], j => by simp [L2.wipe]
  | v :: vs, j => by
    simp only [L2.wipe]
    rw [List.getElem?_set, wipe_get σ vs j, L2.wipe_length]
    by_cases h : v = j
    · subst h
      by_cases h2 : v < σ.length
      · simp [h2]
      · simp [h2]
    · have : j ≠ v := fun e => h e.symm
      simp [h, this]
theorem wipeE_get (σ : En) : ∀ (vs : List Nat) (j : Nat), (Pi.wipe σ vs)[j]? = if j ∈ vs ∧ j < σ.length then some none else σ[j]?
  | [], j => by simp [Pi.wipe]
  | v :: vs, j => by
    have hl : ∀ vs, (Pi.wipe σ vs).length = σ.length := fun vs => by
      induction vs with
      | nil => rfl
      | cons w ws ih => simp [Pi.wipe, ih]
    simp only [Pi.wipe]
    rw [List.getElem?_set, wipeE_get σ vs j, hl]
    by_cases h : v = j
    · subst h
      by_cases h2 : v < σ.length
      · simp [h2]
      · simp [h2]
    · have : j ≠ v := fun e => h e.symm
      simp [h, this]
theorem wipeE_length (σ : En) (vs : List Nat) : (Pi.wipe σ vs).length = σ.length := by
  induction vs with
  | nil => rfl
  | cons w ws ih => simp [Pi.wipe, ih]
theorem wipe_set {σ : L2.St} {i : Nat} {v : Option V} {vs : List Nat} (h : i ∈ vs) : L2.wipe (σ.set i v) vs = L2.wipe σ vs := by
  apply List.ext_getElem?
  intro j
  rw [wipe_get, wipe_get, List.length_set, List.getElem?_set]
  by_cases e : j ∈ vs ∧ j < σ.length
  · rw [if_pos e, if_pos e]
  · rw [if_neg e, if_neg e]
    by_cases e2 : i = j
    · subst e2
      rw [if_pos rfl]
      have : ¬ i < σ.length := fun z => e ⟨h, z⟩
      rw [if_neg this, List.getElem?_eq_none (by omega)]
    · rw [if_neg e2]
theorem wipe_wipe {σ : L2.St} {vs : List Nat} : L2.wipe (L2.wipe σ vs) vs = L2.wipe σ vs := by
  apply List.ext_getElem?
  intro j
  rw [wipe_get, wipe_get, L2.wipe_length]
  by_cases e : j ∈ vs ∧ j < σ.length
  · rw [if_pos e, if_pos e]
  · rw [if_neg e, if_neg e]
theorem EnvR.wipe {G : Geo} {F : Hp} {ca : List Addr} {env : En} {σ : L2.St} (e : EnvR G F ca env σ) (vs : List Nat) : EnvR G F ca (Pi.wipe env vs) (L2.wipe σ vs) := by
  refine ⟨by rw [wipeE_length, L2.wipe_length]; exact e.len, fun i d h => ?_⟩
  rw [wipeE_get] at h
  split at h
  · cases h
  · rename_i h2
    rw [wipe_get, if_neg (by rw [← e.len]; exact h2)]
    exact e.get i d h
section
variable {G : Geo} {cl : Cll} {lo n m k : Nat} {F F' H H' : Hp} {ca ca' : List Addr} {μ μ' : Mu} {σ : L2.St} {W : WX} {X : Cx} {pins : List (Addr × Obj)} {s : Shared} {c : Bool}
/-- what a target takes -/
def gDD (G : Geo) (n : Nat) (tg : Tg) : TG := fun x σ H Q => ∃ F ca μ env env' d, Gd G F ca μ H ∧ EnvR G F ca env σ ∧ Rp G F ca d x ∧ setTg n tg d env = some env' ∧ ∀ σ', EnvR G F ca env' σ' → (∀ vs, tgIn vs n tg = true → L2.wipe σ' vs = L2.wipe σ vs) → Q σ' H
def gDs (G : Geo) (n : Nat) (ts : List Tg) : TGs := fun xs σ H Q => ∃ F ca μ env env' ds, Gd G F ca μ H ∧ EnvR G F ca env σ ∧ Rps G F ca ds xs ∧ setTgs (setTg n) ts ds env = some env' ∧ ∀ σ', EnvR G F ca env' σ' → (∀ vs, ts.all (tgIn vs n) = true → L2.wipe σ' vs = L2.wipe σ vs) → Q σ' H
theorem PG.imp {X : Cx} {e : Expr} {t t' : TG} (h : PG X e t) (i : ∀ x σ H Q, t' x σ H Q → t x σ H Q) : PG X e t' := ⟨fun pins s σ H v u Q I r q => h.run pins s σ H v u Q I r (i v σ H Q q)⟩
theorem PGs.imp {X : Cx} {e : List Expr} {t t' : TGs} (h : PGs X e t) (i : ∀ x σ H Q, t' x σ H Q → t x σ H Q) : PGs X e t' := ⟨fun pins s σ H v u Q I r q => h.run pins s σ H v u Q I r (i v σ H Q q)⟩
theorem pg_nameD {i : Nat} {x : Str} {pos : Pos} (hN : X.N.Nodup) (hi : X.N[i]? = some x) (hx : Loc X.env.scope x) (hf : X.fn x = true ∨ X.env.scope.names.lookup x = some .local) : PG X (.Name x pos) (gDD G n (.name i)) := by
  refine PG.imp (pg_name hN hi hx hf) fun x σ H Q ⟨F, ca, μ, env, env', d, g, e, r, h, q⟩ => ?_
  unfold setTg at h
  split at h
  · cases h
    exact q _ (e.set r) fun vs hv => wipe_set (by cases n <;> simpa [tgIn] using hv)
  · cases h
theorem pgs_nilD : PGs X [] (gDs G n []) := PGs.imp pgs_nil fun xs σ H Q ⟨F, ca, μ, env, env', ds, g, e, r, h, q⟩ => by
  cases ds with
  | nil =>
    cases r
    cases h
    exact ⟨rfl, q _ e fun _ _ => rfl⟩
  | cons _ _ => cases h
theorem pgs_consD {e : Expr} {es : List Expr} {t : Tg} {ts : List Tg} (h1 : PG X e (gDD G n t)) (h2 : PGs X es (gDs G n ts)) (hs : (assignEach (e :: es) X.env).map (·.2) = assign e X.env :: (assignEach es X.env).map (·.2)) : PGs X (e :: es) (gDs G n (t :: ts)) := by
  refine PGs.imp (pgs_cons h1 h2 hs) fun xs σ H Q ⟨F, ca, μ, env, env', ds, g, e, r, h, q⟩ => ?_
  cases r with
  | nil => cases h
  | cons r1 r2 =>
    simp only [setTgs, Option.bind_eq_some_iff] at h
    obtain ⟨env1, k1, k2⟩ := h
    refine ⟨_, _, rfl, F, ca, μ, env, env1, _, g, e, r1, k1, fun σ1 e1 w1 => ⟨F, ca, μ, env1, env', _, g, e1, r2, k2, fun σ2 e2 w2 => q σ2 e2 fun vs hv => ?_⟩⟩
    rw [List.all_cons, Bool.and_eq_true] at hv
    rw [w2 vs hv.2, w1 vs hv.1]
theorem setTgs_len {f : Tg → D → En → Option En} : ∀ {ts : List Tg} {ds : List D} {env env' : En}, setTgs f ts ds env = some env' → ds.length = ts.length
  | [], [], _, _, _ => rfl
  | [], _ :: _, _, _, h => by cases h
  | _ :: _, [], _, _, h => by cases h
  | t :: ts, d :: ds, env, env', h => by
    simp only [setTgs, Option.bind_eq_some_iff] at h
    obtain ⟨_, _, h⟩ := h
    simp [setTgs_len h]
theorem pg_tupD (hK : X.K = G.K) {es : List Expr} {k : Nat} {pos : Pos} {ts : List Tg} (hc : X.calm = true) (h : PGs X es (gDs G n ts)) (hn : (assignEach es X.env).length = ts.length) (hst : (assignEach es X.env).findIdx? (·.1) = none) : PG X (.Tuple es k pos) (gDD G (n + 1) (.tup ts)) := by
  refine ⟨fun pins s σ H v u Q I rv ⟨F, ca, μ, env, env', d, g, e, r, hq, q⟩ => ?_⟩
  simp only [setTg] at hq
  cases r with
  | tup hs rs =>
    exact (pg_tup hc h hn hst).run pins s σ H _ u Q I rv ⟨_, _, rfl, by rw [hK]; exact sqT_le hs g.le, by rw [← rs.length, setTgs_len hq], F, ca, μ, env, env', _, g, e, rs, hq, q⟩
  | lst hf rs =>
    exact (pg_unl hc h hn hst).run pins s σ H _ u Q I rv ⟨_, _, rfl, .inl (.inl (g.le _ _ hf)), by rw [← rs.length, setTgs_len hq], F, ca, μ, env, env', _, g, e, rs, hq, q⟩
  | _ => cases hq

/-! ### comprehensions -/
def W0 : WX := fun _ _ _ _ => False
theorem Pk.of_ok {α β : Type} {R : Hp → List Addr → α → β → Prop} {o : Out α} {Q : β → Hp → Prop} {a : α} (e : o = .ok a μ') (h : ∀ b F' ca' H', Xt lo F ca μ H F' ca' μ' H' → Gd G F' ca' μ' H' → R F' ca' a b → Q b H') : Pk G lo R F ca μ H o σ Q W := by
  subst e
  exact h
theorem Out.bind_is_ok {α β : Type} {o : Out α} {f : α → Mu → Out β} {b : β} {μ2 : Mu} (h : o.bind f = .ok b μ2) : ∃ a μ1, o = .ok a μ1 ∧ f a μ1 = .ok b μ2 := by
  cases o with
  | ok a m => exact ⟨a, m, rfl, h⟩
  | ex c fs m => cases h
  | stuck => cases h
/-- the list that is being made -/
theorem Gd.over (g : Gd G F ca μ H) {L : Addr} (hF : F L = none) (hD : L ∉ ca) (o : HO) : Gd G F ca μ (upd H L o) where
  le := fun a u e => by
    rw [upd_ne (fun z => by rw [z, hF] at e; cases e)]
    exact g.le _ _ e
  len := g.len
  nd := g.nd
  out := g.out
  cel := fun k a cc h1 h2 => (g.cel k a cc h1 h2).mono Le.rfl' Pre.rfl' (upd_ne (fun z => hD (by rw [← z]; exact List.mem_of_getElem? h1)))
theorem Xt.over (x : Xt lo F ca μ H F' ca' μ' H') {L : Addr} (h : H L = none) (hD : L ∉ ca) (o : HO) : Xt lo F ca μ H F' ca' μ' (upd H' L o) where
  fle := x.fle
  pre := x.pre
  ff := x.ff
  cf := x.cf
  fr := fun a u e hn => by
    rw [upd_ne (fun z => by rw [z, h] at e; cases e)]
    exact x.fr a u e hn
  nn := fun a e => by
    rw [upd_ne (fun z => e (by rw [z, h]))]
    exact x.nn a e
  mu := x.mu
  hm := fun k a hk e => by
    rw [upd_ne (fun z => hD (by rw [← z]; exact List.mem_of_getElem? e))]
    exact x.hm k a hk e
  ml := x.ml
def del (H : Hp) (L : Addr) : Hp := fun a => if a = L then none else H a
theorem del_self {H : Hp} {L : Addr} : del H L L = none := if_pos rfl
theorem del_ne {H : Hp} {L a : Addr} (h : a ≠ L) : del H L a = H a := if_neg h
theorem del_upd {H : Hp} {L : Addr} {o : HO} (h : H L = some o) : upd (del H L) L o = H := by
  funext a
  by_cases e : a = L
  · subst e; rw [upd_same, h]
  · rw [upd_ne e, del_ne e]
/-- it is handed out -/
theorem handed {c : Bool} {L : Addr} {ds : List D} {vs : List V} {Q : VK} (x : Xt lo F ca μ H F' ca' μ' H') (g : Gd G F' ca' μ' H') (hl : lo ≤ μ'.length) (hH : H L = none) (hF : F' L = none) (hD : L ∉ ca') (hc : L ∉ ca) (e : H' L = some (.lst vs)) (r : Rps G F' ca' ds vs)
    (h : Pk G lo (Rp G) F ca μ H (newL c ds μ') σ Q W) : Q (.ref L) H' := by
  have g0 : Gd G F' ca' μ' (Sd.del H' L) := ⟨fun a u e' => by rw [del_ne (fun z => by rw [z, hF] at e'; cases e')]; exact g.le _ _ e', g.len, g.nd, g.out, fun k a cc h1 h2 => (g.cel k a cc h1 h2).mono Le.rfl' Pre.rfl' (del_ne (fun z => hD (by rw [← z]; exact List.mem_of_getElem? h1)))⟩
  have x0 : Xt lo F ca μ H F' ca' μ' (Sd.del H' L) := ⟨x.fle, x.pre, x.ff, x.cf, fun a u e' hn => by rw [del_ne (fun z => by rw [z, hH] at e'; cases e')]; exact x.fr a u e' hn,
    fun a e' => by rw [del_ne (fun z => e' (by rw [z, hH]))]; exact x.nn a e', x.mu, fun k a hk e' => by rw [del_ne (fun z => hc (by rw [← z]; exact List.mem_of_getElem? e'))]; exact x.hm k a hk e', x.ml⟩
  have := (newL_ok g0 hl r (Pk.step x0 h)).2 L del_self
  rwa [del_upd e] at this
/-- one turn of a comprehension: what the list being made keeps -/
structure Mkg (G : Geo) (lo : Nat) (F : Hp) (ca : List Addr) (μ : Mu) (H : Hp) (L : Addr) (F' : Hp) (ca' : List Addr) (μ' : Mu) (H' : Hp) (ds : List D) : Prop where
  x : Xt lo F ca μ H F' ca' μ' H'
  g : Gd G F' ca' μ' H'
  hF : F' L = none
  hD : L ∉ ca'
  at_ : ∃ vs, H' L = some (.lst vs) ∧ Rps G F' ca' ds vs
theorem Mkg.step {L : Addr} {ds : List D} {F2 H2 : Hp} {ca2 : List Addr} {μ2 : Mu} (m : Mkg G lo F ca μ H L F' ca' μ' H' ds) (y : Xt lo F' ca' μ' H' F2 ca2 μ2 H2) (g2 : Gd G F2 ca2 μ2 H2) : Mkg G lo F ca μ H L F2 ca2 μ2 H2 ds := by
  obtain ⟨vs, e, r⟩ := m.at_
  refine ⟨m.x.trans y, g2, ?_, fun z => ?_, vs, y.fr _ _ e m.hD, Rps.mono y.fle y.pre r⟩
  · cases h : F2 L with
    | none => rfl
    | some o =>
      rcases y.ff L o h with z | z
      · rw [m.hF] at z; cases z
      · rw [e] at z; cases z
  · rcases y.cf L z with z | z
    · exact m.hD z
    · rw [e] at z; cases z
theorem Mkg.put {L : Addr} {ds : List D} {d : D} {v : V} (m : Mkg G lo F ca μ H L F' ca' μ' H' ds) (hH : H L = none) (hc : L ∉ ca) (r : Rp G F' ca' d v) : ∃ vs, H' L = some (.lst vs) ∧ vs.length = ds.length ∧ Mkg G lo F ca μ H L F' ca' μ' (upd H' L (.lst (vs ++ [v]))) (ds ++ [d]) := by
  obtain ⟨vs, e, r1⟩ := m.at_
  exact ⟨vs, e, r1.length.symm, m.x.over hH hc _, m.g.over m.hF m.hD _, m.hF, m.hD, _, upd_same, r1.append (.cons r .nil)⟩
def condD (G : Geo) (cl : Cll) (lo n : Nat) (W : WX) : Option IE → TT
  | none => tYes
  | some t => tDt G cl lo n t W
theorem condD_ok {cond : Option IE} {env : En} {b : Bool} {Q : Bool → Hp → Prop} (hh : Here G lo F ca μ H env σ) (e : condE (evE G.T cl lo n) cond env μ = .ok b μ') (h : ∀ F' ca' H', Xt lo F ca μ H F' ca' μ' H' → Gd G F' ca' μ' H' → Q b H') : condD G cl lo n W cond σ H Q := by
  cases cond with
  | none =>
    cases e
    exact h F ca H Xt.rfl' hh.g
  | some t =>
    refine ⟨F, ca, μ, env, hh, Pk.of_ok (R := Eqb) e fun b' F' ca' H' x g r => ?_⟩
    cases r
    exact h F' ca' H' x g
theorem lcD {it : Wk IE} {tg : Tg} {cond : Option IE} {elt : IE} {vs : List Nat} {Q : VK} (hin : tgIn vs tgN tg = true) (h : tD G cl lo (n + 1) (.comp c vs tg it cond elt) W σ H Q) :
    tLc (tDi G cl lo n it W) (gDD G tgN tg) (condD G cl lo n W0 cond) (tD G cl lo n elt W0) vs σ H Q := by
  obtain ⟨F, ca, μ, env, hh, q⟩ := h
  simp only [evE] at q
  refine ⟨F, ca, μ, env, hh, ?_⟩
  cases e0 : evI (evE G.T cl lo n env) it μ with
  | stuck => rw [e0] at q; exact q.elim
  | ex c2 fs2 μ2 => rw [e0] at q; exact q
  | ok p μ1 =>
    rw [e0] at q
    intro J F1 ca1 H1 x1 g1 wk L hL
    have q1 := Pk.step x1 q
    rw [Out.bind_ok] at q1
    have hh1 := hh.step x1 g1
    cases e1 : compL (Pi.wipe env vs) tg p.2 (condE (evE G.T cl lo n) cond) (fun e μ => one (evE G.T cl lo n e elt μ)) p.1 μ1 with
    | stuck => 
      have : nox (compL (Pi.wipe env vs) tg p.2 (condE (evE G.T cl lo n) cond) (fun e μ => one (evE G.T cl lo n e elt μ)) p.1 μ1) = .stuck := by rw [e1]; rfl
      rw [this] at q1
      exact q1.elim
    | ex c2 fs2 μ2 =>
      have : nox (compL (Pi.wipe env vs) tg p.2 (condE (evE G.T cl lo n) cond) (fun e μ => one (evE G.T cl lo n e elt μ)) p.1 μ1) = .stuck := by rw [e1]; rfl
      rw [this] at q1
      exact q1.elim
    | ok tot μT =>
      have : nox (compL (Pi.wipe env vs) tg p.2 (condE (evE G.T cl lo n) cond) (fun e μ => one (evE G.T cl lo n e elt μ)) p.1 μ1) = .ok tot μT := by rw [e1]; rfl
      rw [this, Out.bind_ok] at q1
      have hcaL : L ∉ ca1 := g1.not_mem hL
      have hbig : tot.length ≤ big := by
        unfold newL at q1
        split at q1
        · exact q1.elim
        · omega
      refine ⟨fun i m H' => m = p.1.length - i ∧ i ≤ p.1.length ∧ ∃ F' ca' μ' ds zs, Mkg G lo F1 ca1 μ1 H1 L F' ca' μ' H' ds ∧ compL (Pi.wipe env vs) tg p.2 (condE (evE G.T cl lo n) cond) (fun e μ => one (evE G.T cl lo n e elt μ)) (p.1.drop i) μ' = .ok zs μT ∧ tot = ds ++ zs, ⟨_, rfl, Nat.zero_le _, F1, ca1, μ1, [], tot, ⟨(Xt.rfl').over hL hcaL _, g1.over (g1.none_of hL) hcaL _, g1.none_of hL, hcaL, [], upd_same, .nil⟩, by rw [List.drop_zero]; exact e1, rfl⟩, ?_⟩
      rintro i m H' ⟨rfl, hi, F', ca', μ', ds, zs, mk, hz, rfl⟩
      rcases Nat.lt_or_ge i p.1.length with hlt | hge
      · rw [List.drop_eq_getElem_cons hlt] at hz
        simp only [compL] at hz
        split at hz
        · rename_i hck
          obtain ⟨_, wk2⟩ := wk F' ca' μ' H' mk.x.fle mk.x.pre mk.g hck
          obtain ⟨hgo, hy⟩ := wk2 i _ (List.getElem?_eq_getElem hlt)
          refine .inr ⟨hgo, _, fun H'' nx => ⟨_, by omega, rfl, hlt, nx⟩, fun xv H'' hy' => ?_⟩
          obtain ⟨F'', x2, g2, r2⟩ := hy xv H'' hy'
          have mk2 := mk.step x2 g2
          split at hz
          · rename_i env2 hs
            have envR := (hh1.e.mono (mk2.x.fle) (mk2.x.pre)).wipe vs
            refine ⟨F'', ca', μ', _, env2, _, g2, envR, r2, hs, fun σ2 er2 hw => ⟨by rw [hw vs hin, wipe_wipe], ?_⟩⟩
            obtain ⟨b, μ3, k1, k2⟩ := Out.bind_is_ok hz
            have hlo : lo ≤ μ'.length := Nat.le_trans hh1.hl mk2.x.ml
            refine condD_ok ⟨hlo, g2, er2⟩ k1 fun F3 ca3 H3 x3 g3 => ?_
            have mk3 := mk2.step x3 g3
            cases b with
            | false =>
              simp only [Bool.false_eq_true, if_false] at k2 ⊢
              exact ⟨F3, ca3, μ3, ds, zs, mk3, k2, rfl⟩
            | true =>
              simp only [if_true] at k2 ⊢
              obtain ⟨ys, μ4, k3, k4⟩ := Out.bind_is_ok k2
              obtain ⟨zs2, μ5, k5, k6⟩ := Out.bind_is_ok k4
              cases k6
              obtain ⟨d, μ6, k7, k8⟩ := Out.bind_is_ok k3
              cases k8
              refine ⟨F3, ca3, μ3, env2, ⟨Nat.le_trans hlo x3.ml, g3, er2.mono x3.fle x3.pre⟩, Pk.of_ok k7 fun y F4 ca4 H4 x4 g4 r4 => ?_⟩
              have mk4 := mk3.step x4 g4
              obtain ⟨acc, h1, h2, mk5⟩ := mk4.put hL hcaL r4
              exact ⟨acc, h1, by rw [h2, sizeLine_eq]; simp at hbig; simp [big] at hbig; omega, F4, ca4, _, _, zs2, mk5, k5, by simp⟩
          · cases hz
        · cases hz
      · have e : i = p.1.length := by omega
        subst e
        rw [List.drop_of_length_le (Nat.le_refl _)] at hz
        simp only [compL] at hz
        split at hz
        · rename_i hck
          cases hz
          obtain ⟨hst, _⟩ := wk F' ca' _ H' mk.x.fle mk.x.pre mk.g hck
          obtain ⟨vs', e2, r2⟩ := mk.at_
          rw [List.append_nil] at q1
          exact .inl ⟨hst, handed mk.x mk.g (Nat.le_trans hh1.hl mk.x.ml) hL mk.hF mk.hD hcaL e2 r2 q1⟩
        · cases hz
end
end Sd

set_option Elab.async false
set_option linter.all false
set_option maxRecDepth 100000
set_option maxHeartbeats 4000000
/-! Sd16: comprehensions with two clauses; as values and as what a name takes. -/
namespace Sd
open PySem PySem.Spec PyProof.Rows L2 Pi
section
variable {G : Geo} {cl : Cll} {lo n m k : Nat} {F F' H H' : Hp} {ca ca' : List Addr} {μ μ' : Mu} {σ : L2.St} {W : WX} {X : Cx} {pins : List (Addr × Obj)} {s : Shared} {c : Bool}
theorem nox_ok_of {α : Type} {o : Out α} {a : α} {μ : Mu} (h : o = .ok a μ) : nox o = .ok a μ := by rw [h]; rfl
theorem lc2D {it it1 : Wk IE} {tg tg1 : Tg} {cond : Option IE} {elt : IE} {vs vs1 : List Nat} {Q : VK} (hin : tgIn vs tgN tg = true) (hin1 : tgIn vs1 tgN tg1 = true) (h : tD G cl lo (n + 1) (.comp2 c vs vs1 tg it tg1 it1 cond elt) W σ H Q) :
    tLc2 (tDi G cl lo n it W) (gDD G tgN tg) tYes (tDi G cl lo n it1 W0) (gDD G tgN tg1) (condD G cl lo n W0 cond) (tD G cl lo n elt W0) vs vs1 σ H Q := by
  obtain ⟨F, ca, μ, env, hh, q⟩ := h
  simp only [evE] at q
  refine ⟨F, ca, μ, env, hh, ?_⟩
  cases e0 : evI (evE G.T cl lo n env) it μ with
  | stuck => rw [e0] at q; exact q.elim
  | ex c2 fs2 μ2 => rw [e0] at q; exact q
  | ok p μ1 =>
    rw [e0] at q
    intro J F1 ca1 H1 x1 g1 wk L hL
    have q1 := Pk.step x1 q
    rw [Out.bind_ok] at q1
    have hh1 := hh.step x1 g1
    generalize hel : (fun (e : En) (μ : Mu) => (evI (evE G.T cl lo n e) it1 μ).bind fun q1 μ => compL (Pi.wipe e vs1) tg1 q1.2 (condE (evE G.T cl lo n) cond) (fun e μ => one (evE G.T cl lo n e elt μ)) q1.1 μ) = el at q1
    cases e1 : compL (Pi.wipe env vs) tg p.2 (fun _ μ => .ok true μ) el p.1 μ1 with
    | stuck => rw [e1] at q1; exact q1.elim
    | ex c2 fs2 μ2 => rw [e1] at q1; exact q1.elim
    | ok tot μT =>
      rw [e1, nox_ok, Out.bind_ok] at q1
      have hcaL : L ∉ ca1 := g1.not_mem hL
      have hbig : tot.length ≤ big := by
        unfold newL at q1
        split at q1
        · exact q1.elim
        · omega
      refine ⟨fun i m H' => m = p.1.length - i ∧ i ≤ p.1.length ∧ ∃ F' ca' μ' ds zs, Mkg G lo F1 ca1 μ1 H1 L F' ca' μ' H' ds ∧ compL (Pi.wipe env vs) tg p.2 (fun _ μ => .ok true μ) el (p.1.drop i) μ' = .ok zs μT ∧ tot = ds ++ zs, ⟨_, rfl, Nat.zero_le _, F1, ca1, μ1, [], tot, ⟨(Xt.rfl').over hL hcaL _, g1.over (g1.none_of hL) hcaL _, g1.none_of hL, hcaL, [], upd_same, .nil⟩, by rw [List.drop_zero]; exact e1, rfl⟩, ?_⟩
      rintro i m H' ⟨rfl, hi, F', ca', μ', ds, zs, mk, hz, rfl⟩
      rcases Nat.lt_or_ge i p.1.length with hlt | hge
      · rw [List.drop_eq_getElem_cons hlt] at hz
        simp only [compL] at hz
        split at hz
        · rename_i hck
          obtain ⟨_, wk2⟩ := wk F' ca' μ' H' mk.x.fle mk.x.pre mk.g hck
          obtain ⟨hgo, hy⟩ := wk2 i _ (List.getElem?_eq_getElem hlt)
          refine .inr ⟨hgo, _, fun H'' nx => ⟨_, by omega, rfl, hlt, nx⟩, fun xv H'' hy' => ?_⟩
          obtain ⟨F'', x2, g2, r2⟩ := hy xv H'' hy'
          have mk2 := mk.step x2 g2
          split at hz
          · rename_i env2 hs
            have envR := (hh1.e.mono (mk2.x.fle) (mk2.x.pre)).wipe vs
            refine ⟨F'', ca', μ', _, env2, _, g2, envR, r2, hs, fun σ2 er2 hw => ⟨by rw [hw vs hin, wipe_wipe], ?_⟩⟩
            have hlo : lo ≤ μ'.length := Nat.le_trans hh1.hl mk2.x.ml
            rw [Out.bind_ok, if_pos rfl] at hz
            simp only [tYes, if_true]
            obtain ⟨ys, μ4, k3, k4⟩ := Out.bind_is_ok hz
            obtain ⟨zs2, μ5, k5, k6⟩ := Out.bind_is_ok k4
            cases k6
            rw [← hel] at k3
            obtain ⟨p1, μ3, k7, k8⟩ := Out.bind_is_ok k3
            refine ⟨F'', ca', μ', env2, ⟨hlo, g2, er2⟩, ?_⟩
            rw [k7]
            intro J1 F3 ca3 H3 x3 g3 wk1
            have mk3 := mk2.step x3 g3
            have er3 := er2.mono x3.fle x3.pre
            refine ⟨fun j k H' => k = p1.1.length - j ∧ j ≤ p1.1.length ∧ ∃ F' ca' μ' ds1 zs1, (Le F3 F' ∧ Pre ca3 ca' ∧ μ3.length ≤ μ'.length) ∧ Mkg G lo F1 ca1 μ1 H1 L F' ca' μ' H' (ds ++ ds1) ∧ compL (Pi.wipe env2 vs1) tg1 p1.2 (condE (evE G.T cl lo n) cond) (fun e μ => one (evE G.T cl lo n e elt μ)) (p1.1.drop j) μ' = .ok zs1 μ4 ∧ ys = ds1 ++ zs1, ⟨_, rfl, Nat.zero_le _, F3, ca3, μ3, [], ys, ⟨Le.rfl', Pre.rfl', Nat.le_refl _⟩, by rw [List.append_nil]; exact mk3, by rw [List.drop_zero]; exact k8, rfl⟩, ?_⟩
            rintro j k H5 ⟨rfl, hj, F5, ca5, μ5, ds1, zs1, y5, mk5, hz1, rfl⟩
            rcases Nat.lt_or_ge j p1.1.length with hlt1 | hge1
            · rw [List.drop_eq_getElem_cons hlt1] at hz1
              simp only [compL] at hz1
              split at hz1
              · rename_i hck1
                obtain ⟨_, wk3⟩ := wk1 F5 ca5 μ5 H5 y5.1 y5.2.1 mk5.g hck1
                obtain ⟨hgo1, hy1⟩ := wk3 j _ (List.getElem?_eq_getElem hlt1)
                refine .inr ⟨hgo1, _, fun H'' nx => ⟨_, by omega, rfl, hlt1, nx⟩, fun xv1 H6 hy2 => ?_⟩
                obtain ⟨F6, x6, g6, r6⟩ := hy1 xv1 H6 hy2
                have mk6 := mk5.step x6 g6
                split at hz1
                · rename_i env3 hs1
                  have er6 := (er3.mono (y5.1.trans x6.fle) (y5.2.1.trans x6.pre)).wipe vs1
                  refine ⟨F6, ca5, μ5, _, env3, _, g6, er6, r6, hs1, fun σ3 er7 hw1 => ⟨by rw [hw1 vs1 hin1, wipe_wipe], ?_⟩⟩
                  obtain ⟨b, μ7, k10, k11⟩ := Out.bind_is_ok hz1
                  have hlo5 : lo ≤ μ5.length := Nat.le_trans hlo (Nat.le_trans x3.ml y5.2.2)
                  refine condD_ok ⟨hlo5, g6, er7⟩ k10 fun F7 ca7 H7 x7 g7 => ?_
                  have mk7 := mk6.step x7 g7
                  have y7 : Le F3 F7 ∧ Pre ca3 ca7 ∧ μ3.length ≤ μ7.length := ⟨(y5.1.trans x6.fle).trans x7.fle, (y5.2.1.trans x6.pre).trans x7.pre, Nat.le_trans y5.2.2 x7.ml⟩
                  cases b with
                  | false =>
                    simp only [Bool.false_eq_true, if_false] at k11 ⊢
                    exact ⟨F7, ca7, μ7, ds1, zs1, y7, mk7, k11, rfl⟩
                  | true =>
                    simp only [if_true] at k11 ⊢
                    obtain ⟨ys1, μ8, k12, k13⟩ := Out.bind_is_ok k11
                    obtain ⟨zs3, μ9, k14, k15⟩ := Out.bind_is_ok k13
                    cases k15
                    obtain ⟨d, μ10, k16, k17⟩ := Out.bind_is_ok k12
                    cases k17
                    refine ⟨F7, ca7, μ7, env3, ⟨Nat.le_trans hlo5 x7.ml, g7, er7.mono x7.fle x7.pre⟩, Pk.of_ok k16 fun y F8 ca8 H8 x8 g8 r8 => ?_⟩
                    have mk8 := mk7.step x8 g8
                    obtain ⟨acc, h1, h2, mk9⟩ := mk8.put hL hcaL r8
                    refine ⟨acc, h1, by rw [h2, sizeLine_eq]; simp at hbig; simp [big] at hbig; simp; omega, F8, ca8, _, ds1 ++ [d], zs3, ⟨y7.1.trans x8.fle, y7.2.1.trans x8.pre, Nat.le_trans y7.2.2 x8.ml⟩, by rw [← List.append_assoc]; exact mk9, k14, by simp⟩
                · cases hz1
              · cases hz1
            · have e : j = p1.1.length := by omega
              subst e
              rw [List.drop_of_length_le (Nat.le_refl _)] at hz1
              simp only [compL] at hz1
              split at hz1
              · rename_i hck1
                cases hz1
                obtain ⟨hst1, _⟩ := wk1 F5 ca5 _ H5 y5.1 y5.2.1 mk5.g hck1
                exact .inl ⟨hst1, F5, ca5, _, _, _, mk5, k5, by simp⟩
              · cases hz1
          · cases hz
        · cases hz
      · have e : i = p.1.length := by omega
        subst e
        rw [List.drop_of_length_le (Nat.le_refl _)] at hz
        simp only [compL] at hz
        split at hz
        · rename_i hck
          cases hz
          obtain ⟨hst, _⟩ := wk F' ca' _ H' mk.x.fle mk.x.pre mk.g hck
          obtain ⟨vs', e2, r2⟩ := mk.at_
          rw [List.append_nil] at q1
          exact .inl ⟨hst, handed mk.x mk.g (Nat.le_trans hh1.hl mk.x.ml) hL mk.hF mk.hD hcaL e2 r2 q1⟩
        · cases hz
end
end Sd

set_option Elab.async false
set_option linter.all false
set_option maxRecDepth 100000
set_option maxHeartbeats 4000000
/-! Sd17: statements. -/
namespace Sd
open PySem PySem.Spec PyProof.Rows L2 Pi
/-- what is wanted behind a statement -/
def Ps (G : Geo) (lo : Nat) (F : Hp) (ca : List Addr) (μ : Mu) (H : Hp) (o : SOut) (E : Ends) (W : WX) : Prop := match o with
  | .next env μ' => ∀ σ' F' ca' H', Xt lo F ca μ H F' ca' μ' H' → Gd G F' ca' μ' H' → EnvR G F' ca' env σ' → E.nx σ' H'
  | .ret d μ' => ∀ v F' ca' H', Xt lo F ca μ H F' ca' μ' H' → Gd G F' ca' μ' H' → Rp G F' ca' d v → E.rt v H'
  | .brk env μ' => ∀ σ' F' ca' H', Xt lo F ca μ H F' ca' μ' H' → Gd G F' ca' μ' H' → EnvR G F' ca' env σ' → E.bk σ' H'
  | .cnt env μ' => ∀ σ' F' ca' H', Xt lo F ca μ H F' ca' μ' H' → Gd G F' ca' μ' H' → EnvR G F' ca' env σ' → E.ct σ' H'
  | .ex c fs env μ' => ∀ σ' d F' ca' H', Xt lo F ca μ H F' ca' μ' H' → Gd G F' ca' μ' H' → EnvR G F' ca' env σ' → ExAt G F' ca' H' c fs d → W (.ref (G.cad c)) d σ' H'
  | .stuck => False
section
variable {G : Geo} {cl : Cll} {lo n m k : Nat} {F F' H H' : Hp} {ca ca' : List Addr} {μ μ' : Mu} {σ : L2.St} {W : WX} {X : Cx} {pins : List (Addr × Obj)} {s : Shared} {c : Bool} {E : Ends} {env : En}
theorem Ps.step {o : SOut} (x : Xt lo F ca μ H F' ca' μ' H') (h : Ps G lo F ca μ H o E W) : Ps G lo F' ca' μ' H' o E W := by
  cases o with
  | next env m => exact fun σ F2 ca2 H2 y g r => h σ F2 ca2 H2 (x.trans y) g r
  | ret d m => exact fun σ F2 ca2 H2 y g r => h σ F2 ca2 H2 (x.trans y) g r
  | brk env m => exact fun σ F2 ca2 H2 y g r => h σ F2 ca2 H2 (x.trans y) g r
  | cnt env m => exact fun σ F2 ca2 H2 y g r => h σ F2 ca2 H2 (x.trans y) g r
  | ex c fs env m => exact fun σ d F2 ca2 H2 y g r => h σ d F2 ca2 H2 (x.trans y) g r
  | stuck => exact h
/-- an expression, then the rest -/
theorem Ps.of {α β : Type} {R : Hp → List Addr → α → β → Prop} {o : Out α} {f : α → Mu → SOut} (hh : Here G lo F ca μ H env σ) (h : Ps G lo F ca μ H (SOut.of o env f) E W) :
    Pk G lo R F ca μ H o σ (fun b H1 => ∃ F1 ca1 μ1 a, Xt lo F ca μ H F1 ca1 μ1 H1 ∧ Gd G F1 ca1 μ1 H1 ∧ R F1 ca1 a b ∧ Ps G lo F1 ca1 μ1 H1 (f a μ1) E W) W := by
  cases o with
  | ok a m => exact fun b F2 ca2 H2 y g r => ⟨F2, ca2, m, a, y, g, r, Ps.step y h⟩
  | ex c fs m => exact fun d F2 ca2 H2 y g r => h σ d F2 ca2 H2 y g (hh.e.mono y.fle y.pre) r
  | stuck => exact h
/-- a statement, then the rest -/
theorem Ps.then {o : SOut} {f : En → Mu → SOut} (hl : lo ≤ μ.length) (h : Ps G lo F ca μ H (o.then f) E W) : Ps G lo F ca μ H o { E with nx := fun σ H1 => ∃ F1 ca1 μ1 env1, Here G lo F1 ca1 μ1 H1 env1 σ ∧ Ps G lo F1 ca1 μ1 H1 (f env1 μ1) E W } W := by
  cases o with
  | next env m => exact fun σ F2 ca2 H2 y g r => ⟨F2, ca2, m, env, ⟨Nat.le_trans hl y.ml, g, r⟩, Ps.step y h⟩
  | ret d m => exact h
  | brk env m => exact h
  | cnt env m => exact h
  | ex c fs env m => exact h
  | stuck => exact h
theorem Ps.ends {o : SOut} {E' : Ends} (h : Ps G lo F ca μ H o E W) (h1 : ∀ σ H, E.nx σ H → E'.nx σ H) (h2 : ∀ σ H, E.rt σ H → E'.rt σ H) (h3 : ∀ σ H, E.bk σ H → E'.bk σ H) (h4 : ∀ σ H, E.ct σ H → E'.ct σ H) : Ps G lo F ca μ H o E' W := by
  cases o with
  | next env m => exact fun σ F2 ca2 H2 y g r => h1 _ _ (h σ F2 ca2 H2 y g r)
  | ret d m => exact fun σ F2 ca2 H2 y g r => h2 _ _ (h σ F2 ca2 H2 y g r)
  | brk env m => exact fun σ F2 ca2 H2 y g r => h3 _ _ (h σ F2 ca2 H2 y g r)
  | cnt env m => exact fun σ F2 ca2 H2 y g r => h4 _ _ (h σ F2 ca2 H2 y g r)
  | ex c fs env m => exact h
  | stuck => exact h
def tS (G : Geo) (cl : Cll) (lo n : Nat) (i : IS) (W : WX) : TS := fun E σ H => ∃ F ca μ env, Here G lo F ca μ H env σ ∧ Ps G lo F ca μ H (exS G.T cl lo n i env μ) E W
def tSs (G : Geo) (cl : Cll) (lo n : Nat) (is : List IS) (W : WX) : TS := fun E σ H => ∃ F ca μ env, Here G lo F ca μ H env σ ∧ Ps G lo F ca μ H (exL (exS G.T cl lo n) is env μ) E W
theorem pss_nilD : PSs X [] (tSs G cl lo n [] W) := PSs.imp pss_nil fun E σ H ⟨F, ca, μ, env, hh, q⟩ => q σ F ca H Xt.rfl' hh.g hh.e
theorem pss_consD {st : Stmt} {sts : List Stmt} {i : IS} {is : List IS} (h1 : PS X st (tS G cl lo n i W)) (h2 : PSs X sts (tSs G cl lo n is W)) : PSs X (st :: sts) (tSs G cl lo n (i :: is) W) :=
  PSs.imp (pss_cons h1 h2) fun E σ H ⟨F, ca, μ, env, hh, q⟩ => ⟨F, ca, μ, env, hh, Ps.then hh.hl q⟩
theorem ps_passD {pos : Pos} : PS X (.Pass pos) (tS G cl lo (n + 1) .pass W) := PS.imp ps_pass fun E σ H ⟨F, ca, μ, env, hh, q⟩ => q σ F ca H Xt.rfl' hh.g hh.e
theorem ps_breakD {pos : Pos} : PS X (.Break pos) (tS G cl lo (n + 1) .brk W) := PS.imp ps_break fun E σ H ⟨F, ca, μ, env, hh, q⟩ => q σ F ca H Xt.rfl' hh.g hh.e
theorem ps_contD {pos : Pos} : PS X (.Continue pos) (tS G cl lo (n + 1) .cnt W) := PS.imp ps_continue fun E σ H ⟨F, ca, μ, env, hh, q⟩ => q σ F ca H Xt.rfl' hh.g hh.e
theorem ps_exprD {e : Expr} {ie : IE} {pos : Pos} (he : PE X e (tD G cl lo n ie W)) (hs : swapsWith e none pos.line X.env = pure false) : PS X (.Expr e pos) (tS G cl lo (n + 1) (.expr ie) W) :=
  PS.imp (ps_expr he hs) fun E σ H ⟨F, ca, μ, env, hh, q⟩ => ⟨F, ca, μ, env, hh, (Ps.of (R := Rp G) hh q).imp fun v H1 ⟨F1, ca1, μ1, d, x, g, r, q1⟩ => q1 σ F1 ca1 H1 Xt.rfl' g (hh.e.mono x.fle x.pre)⟩
theorem ps_retD {e : Expr} {ie : IE} {pos : Pos} (he : PE X e (tD G cl lo n ie W)) : PS X (.Return (some e) pos) (tS G cl lo (n + 1) (.ret ie) W) :=
  PS.imp (ps_ret he) fun E σ H ⟨F, ca, μ, env, hh, q⟩ => ⟨F, ca, μ, env, hh, (Ps.of (R := Rp G) hh q).imp fun v H1 ⟨F1, ca1, μ1, d, x, g, r, q1⟩ => q1 v F1 ca1 H1 Xt.rfl' g r⟩
theorem ps_ifD {t : Expr} {a b : List Stmt} {it : IE} {ia ib : List IS} {pos : Pos} (ht : PT X t (tDt G cl lo n it W)) (ha : PSs X a (tSs G cl lo n ia W)) (hb : PSs X b (tSs G cl lo n ib W)) : PS X (.If t a b pos) (tS G cl lo (n + 1) (.ite it ia ib) W) :=
  PS.imp (ps_if ht ha hb) fun E σ H ⟨F, ca, μ, env, hh, q⟩ => ⟨F, ca, μ, env, hh, (Ps.of (R := Eqb) hh q).imp fun v H1 ⟨F1, ca1, μ1, d, x, g, r, q1⟩ => by
    cases r
    cases v with
    | true => exact ⟨F1, ca1, μ1, env, hh.step x g, q1⟩
    | false => exact ⟨F1, ca1, μ1, env, hh.step x g, q1⟩⟩
/-- loops -/
theorem ps_whileD {t : Expr} {b : List Stmt} {it : IE} {ib : List IS} {pos : Pos} (hp : PassesOwn (model X.prog X.w) X.A X.env X.xe) (ht : PT X t (tDt G cl lo n it W)) (hb : PSs X b (tSs G cl lo n ib W)) : PS X (.While t b [] pos) (tS G cl lo (n + 1) (.whl it ib) W) :=
  PS.imp (ps_while hp ht hb) fun E σ H ⟨F, ca, μ, env, hh, q⟩ => by
    simp only [exS] at q
    refine ⟨fun m σ H => ∃ F ca μ env, Here G lo F ca μ H env σ ∧ Ps G lo F ca μ H (whlL (fun env μ => tru (evE G.T cl lo n env it μ)) (exL (exS G.T cl lo n) ib) m env μ) E W, ⟨_, F, ca, μ, env, hh, q⟩, ?_⟩
    rintro m σ H ⟨F, ca, μ, env, hh, q⟩
    cases m with
    | zero => exact q.elim
    | succ m =>
      simp only [whlL] at q
      refine ⟨F, ca, μ, env, hh, (Ps.of (R := Eqb) hh q).imp fun v H1 ⟨F1, ca1, μ1, d, x, g, r, q1⟩ => ?_⟩
      cases r
      have h1 := hh.step x g
      cases v with
      | false => exact q1 σ F1 ca1 H1 Xt.rfl' g h1.e
      | true =>
        simp only [if_true] at q1 ⊢
        refine ⟨_, fun σ' H' nn => ⟨m, Nat.lt_succ_self m, nn⟩, F1, ca1, μ1, env, h1, ?_⟩
        cases e : exL (exS G.T cl lo n) ib env μ1 with
        | next env2 μ2 => rw [e] at q1; exact fun σ F2 ca2 H2 y g2 r => ⟨F2, ca2, μ2, env2, ⟨Nat.le_trans h1.hl y.ml, g2, r⟩, Ps.step y q1⟩
        | cnt env2 μ2 => rw [e] at q1; exact fun σ F2 ca2 H2 y g2 r => ⟨F2, ca2, μ2, env2, ⟨Nat.le_trans h1.hl y.ml, g2, r⟩, Ps.step y q1⟩
        | brk env2 μ2 => rw [e] at q1; exact q1
        | ret d μ2 => rw [e] at q1; exact q1
        | ex c fs env2 μ2 => rw [e] at q1; exact q1
        | stuck => rw [e] at q1; exact q1
theorem ps_forD {tg iter : Expr} {b : List Stmt} {itg : Tg} {it : Wk IE} {ib : List IS} {pos : Pos} (hp : PassesOwn (model X.prog X.w) X.A X.env X.xe) (hc : X.calm = true) (hi : PI X tg iter (tDi G cl lo n it W)) (hg : PG X tg (gDD G tgN itg)) (hb : PSs X b (tSs G cl lo n ib W)) (hs : ∀ x, foldedSetIterable iter X.env x = pure x) :
    PS X (.For tg iter b [] pos) (tS G cl lo (n + 1) (.for itg it ib) W) :=
  PS.imp (ps_for hp hc hi hg hb hs) fun E σ H ⟨F, ca, μ, env, hh, q⟩ => by
    simp only [exS] at q
    refine ⟨F, ca, μ, env, hh, ?_⟩
    cases e0 : evI (evE G.T cl lo n env) it μ with
    | stuck => rw [e0] at q; exact q.elim
    | ex c2 fs2 μ2 => rw [e0] at q; exact fun d F2 ca2 H2 y g r => q σ d F2 ca2 H2 y g (hh.e.mono y.fle y.pre) r
    | ok p μ1 =>
      rw [e0, SOut.of_ok] at q
      intro J F1 ca1 H1 x1 g1 wk
      have q1 := Ps.step x1 q
      have hh1 := hh.step x1 g1
      refine ⟨fun i m σ H => m = p.1.length - i ∧ i ≤ p.1.length ∧ ∃ F ca μ env, (Le F1 F ∧ Pre ca1 ca) ∧ Here G lo F ca μ H env σ ∧ Ps G lo F ca μ H (forL itg p.2 (exL (exS G.T cl lo n) ib) (p.1.drop i) env μ) E W, ⟨_, rfl, Nat.zero_le _, F1, ca1, μ1, env, ⟨Le.rfl', Pre.rfl'⟩, hh1, by rw [List.drop_zero]; exact q1⟩, ?_⟩
      rintro i m σ H ⟨rfl, hi, F, ca, μ, env, ⟨l0, p0⟩, hh, q⟩
      rcases Nat.lt_or_ge i p.1.length with hlt | hge
      · rw [List.drop_eq_getElem_cons hlt] at q
        simp only [forL] at q
        split at q
        · rename_i hck
          obtain ⟨_, wk2⟩ := wk F ca μ H l0 p0 hh.g hck
          obtain ⟨hgo, hy⟩ := wk2 i _ (List.getElem?_eq_getElem hlt)
          refine .inr ⟨hgo, _, fun σ' H' nx => ⟨_, by omega, rfl, hlt, nx⟩, fun xv H'' hy' => ?_⟩
          obtain ⟨F2, x2, g2, r2⟩ := hy xv H'' hy'
          have q2 := Ps.step x2 q
          have h2 := hh.step x2 g2
          split at q2
          · rename_i env2 hs2
            refine ⟨F2, ca, μ, env, env2, _, g2, h2.e, r2, hs2, fun σ2 er2 _ => ⟨F2, ca, μ, env2, ⟨h2.hl, g2, er2⟩, ?_⟩⟩
            cases e : exL (exS G.T cl lo n) ib env2 μ with
            | next env3 μ3 => rw [e] at q2; exact fun σ F3 ca3 H3 y g3 r => ⟨F3, ca3, μ3, env3, ⟨(l0.trans x2.fle).trans y.fle, (p0.trans x2.pre).trans y.pre⟩, ⟨Nat.le_trans h2.hl y.ml, g3, r⟩, Ps.step y q2⟩
            | cnt env3 μ3 => rw [e] at q2; exact fun σ F3 ca3 H3 y g3 r => ⟨F3, ca3, μ3, env3, ⟨(l0.trans x2.fle).trans y.fle, (p0.trans x2.pre).trans y.pre⟩, ⟨Nat.le_trans h2.hl y.ml, g3, r⟩, Ps.step y q2⟩
            | brk env3 μ3 => rw [e] at q2; exact q2
            | ret d μ3 => rw [e] at q2; exact q2
            | ex c fs env3 μ3 => rw [e] at q2; exact q2
            | stuck => rw [e] at q2; exact q2
          · exact q2.elim
        · exact q.elim
      · have e : i = p.1.length := by omega
        subst e
        rw [List.drop_of_length_le (Nat.le_refl _)] at q
        simp only [forL] at q
        split at q
        · rename_i hck
          obtain ⟨hst, _⟩ := wk F ca μ H l0 p0 hh.g hck
          exact .inl ⟨hst, q σ F ca H Xt.rfl' hh.g hh.e⟩
        · exact q.elim

/-! ### assignments -/
theorem Ps.nx_only {o : SOut} {Q : L2.St → Hp → Prop} {env : En} {μ1 : Mu} (e : o = .next env μ1) (h : Ps G lo F ca μ H o ⟨Q, fun _ _ => False, fun _ _ => False, fun _ _ => False⟩ W) : ∀ σ' F' ca' H', Xt lo F ca μ H F' ca' μ1 H' → Gd G F' ca' μ1 H' → EnvR G F' ca' env σ' → Q σ' H' := by
  subst e
  exact h
/-- a target of an assignment -/
def gT (G : Geo) (cl : Cll) (lo n : Nat) (t : Tgt) (W : WX) : TG := fun x σ H Q => ∃ F ca μ env d, Here G lo F ca μ H env σ ∧ Rp G F ca d x ∧ Ps G lo F ca μ H (asT G.T cl lo n t d env μ) ⟨Q, fun _ _ => False, fun _ _ => False, fun _ _ => False⟩ W
def gTs (G : Geo) (cl : Cll) (lo n : Nat) (ts : List Tgt) (W : WX) : TGs := fun xs σ H Q => ∃ F ca μ env ds, Here G lo F ca μ H env σ ∧ Rps G F ca ds xs ∧ Ps G lo F ca μ H (asL (asT G.T cl lo n) ts ds env μ) ⟨Q, fun _ _ => False, fun _ _ => False, fun _ _ => False⟩ W
def nrm : SOut → Bool
  | .ret _ _ => false
  | .brk _ _ => false
  | .cnt _ _ => false
  | _ => true
theorem nrm_of {α : Type} {o : Out α} {f : α → Mu → SOut} (h : ∀ a μ, nrm (f a μ) = true) : nrm (SOut.of o env f) = true := by
  cases o <;> first | rfl | exact h _ _
theorem nrm_asL {as : Tgt → D → En → Mu → SOut} (h : ∀ t d env μ, nrm (as t d env μ) = true) : ∀ (ts : List Tgt) (ds : List D) (env : En) (μ : Mu), nrm (asL as ts ds env μ) = true
  | [], [], _, _ => rfl
  | [], _ :: _, _, _ => rfl
  | _ :: _, [], _, _ => rfl
  | t :: ts, d :: ds, env, μ => by
    have h1 := h t d env μ
    simp only [asL]
    cases e : as t d env μ with
    | next env2 m => exact nrm_asL h ts ds env2 m
    | ex c fs env2 m => rfl
    | stuck => rfl
    | ret d2 m => rw [e] at h1; cases h1
    | brk _ m => rw [e] at h1; cases h1
    | cnt _ m => rw [e] at h1; cases h1
theorem nrm_asT (T : Tab) : ∀ (n : Nat) (t : Tgt) (d : D) (env : En) (μ : Mu), nrm (asT T cl lo n t d env μ) = true
  | 0, _, _, _, _ => rfl
  | n + 1, t, d, env, μ => by
    cases t with
    | name i =>
      simp only [asT]
      split <;> rfl
    | tup ts =>
      simp only [asT]
      split
      · split
        · exact nrm_asL (nrm_asT T n) _ _ _ _
        · rfl
      · split
        · exact nrm_asL (nrm_asT T n) _ _ _ _
        · rfl
      · rfl
    | sub a i =>
      simp only [asT]
      refine nrm_of fun x μ => nrm_of fun y μ => ?_
      split
      · split <;> rfl
      · rfl
    | attr a f =>
      simp only [asT]
      refine nrm_of fun x μ => ?_
      split
      · split
        · split
          · split
            · split <;> rfl
            · rfl
          · rfl
        · rfl
      · rfl
theorem Ps.nx {o : SOut} (hn : nrm o = true) (h : Ps G lo F ca μ H o E W) : Ps G lo F ca μ H o ⟨E.nx, fun _ _ => False, fun _ _ => False, fun _ _ => False⟩ W := by
  cases o with
  | next env m => exact h
  | ex c fs env m => exact h
  | stuck => exact h
  | ret d m => cases hn
  | brk _ m => cases hn
  | cnt _ m => cases hn
theorem ps_asgD {tg e : Expr} {ie : IE} {t : Tgt} {pos : Pos} (he : PE X e (tD G cl lo n ie W)) (hg : PG X tg (gT G cl lo n t W)) (hs : swapsWithSole [tg] e pos.line X.env = pure false) (hw : swappedStores [tg] e X.env = pure none) (h1 : (assignEach [tg] X.env).map (·.2) = [assign tg X.env]) :
    PS X (.Assign [tg] e pos) (tS G cl lo (n + 1) (.asg t ie) W) :=
  PS.imp (ps_asg he hg hs hw h1) fun E σ H ⟨F, ca, μ, env, hh, q⟩ => ⟨F, ca, μ, env, hh, (Ps.of (R := Rp G) hh q).imp fun v H1 ⟨F1, ca1, μ1, d, x, g, r, q1⟩ => ⟨F1, ca1, μ1, env, d, hh.step x g, r, q1.nx (nrm_asT G.T n t d env μ1)⟩⟩
theorem pg_nmD {i : Nat} {x : Str} {pos : Pos} (hN : X.N.Nodup) (hi : X.N[i]? = some x) (hx : Loc X.env.scope x) (hf : X.fn x = true ∨ X.env.scope.names.lookup x = some .local) : PG X (.Name x pos) (gT G cl lo (n + 1) (.name i) W) :=
  PG.imp (pg_name hN hi hx hf) fun x σ H Q ⟨F, ca, μ, env, d, hh, r, q⟩ => by
    simp only [asT] at q
    split at q
    · exact q _ F ca H Xt.rfl' hh.g (hh.e.set r)
    · exact q.elim
theorem pgs_nlD : PGs X [] (gTs G cl lo n [] W) := PGs.imp pgs_nil fun xs σ H Q ⟨F, ca, μ, env, ds, hh, r, q⟩ => by
  cases ds with
  | nil =>
    cases r
    exact ⟨rfl, q σ F ca H Xt.rfl' hh.g hh.e⟩
  | cons _ _ => exact q.elim
theorem pgs_csD {e : Expr} {es : List Expr} {t : Tgt} {ts : List Tgt} (h1 : PG X e (gT G cl lo n t W)) (h2 : PGs X es (gTs G cl lo n ts W)) (hs : (assignEach (e :: es) X.env).map (·.2) = assign e X.env :: (assignEach es X.env).map (·.2)) : PGs X (e :: es) (gTs G cl lo n (t :: ts) W) := by
  refine PGs.imp (pgs_cons h1 h2 hs) fun xs σ H Q ⟨F, ca, μ, env, ds, hh, r, q⟩ => ?_
  cases r with
  | nil => exact q.elim
  | @cons d0 ds0 v0 vs0 r1 r2 =>
    simp only [asL] at q
    refine ⟨_, _, rfl, F, ca, μ, env, _, hh, r1, ?_⟩
    have hn := nrm_asT (cl := cl) (lo := lo) G.T n t d0 env μ
    cases e : asT G.T cl lo n t d0 env μ with
    | next env2 m => rw [e] at q; exact fun σ F2 ca2 H2 y g r => ⟨F2, ca2, m, env2, _, ⟨Nat.le_trans hh.hl y.ml, g, r⟩, Rps.mono y.fle y.pre r2, Ps.step y q⟩
    | ex c fs env2 m => rw [e] at q; exact q
    | stuck => rw [e] at q; exact q
    | ret d2 m => rw [e] at hn; cases hn
    | brk _ m => rw [e] at hn; cases hn
    | cnt _ m => rw [e] at hn; cases hn
theorem pg_tpD (hK : X.K = G.K) {es : List Expr} {k : Nat} {pos : Pos} {ts : List Tgt} (hc : X.calm = true) (h : PGs X es (gTs G cl lo n ts W)) (hn : (assignEach es X.env).length = ts.length) (hst : (assignEach es X.env).findIdx? (·.1) = none) : PG X (.Tuple es k pos) (gT G cl lo (n + 1) (.tup ts) W) := by
  refine ⟨fun pins s σ H v u Q I rv ⟨F, ca, μ, env, d, hh, r, q⟩ => ?_⟩
  cases r with
  | tup hs rs =>
    simp only [asT] at q
    split at q
    · rename_i hl
      exact (pg_tup hc h hn hst).run pins s σ H _ u Q I rv ⟨_, _, rfl, by rw [hK]; exact sqT_le hs hh.g.le, by rw [← rs.length, hl], F, ca, μ, env, _, hh, rs, q⟩
    · exact q.elim
  | lst hf rs =>
    simp only [asT] at q
    split at q
    · rename_i hl
      exact (pg_unl hc h hn hst).run pins s σ H _ u Q I rv ⟨_, _, rfl, .inl (.inl (hh.g.le _ _ hf)), by rw [← rs.length, hl], F, ca, μ, env, _, hh, rs, q⟩
    · exact q.elim
  | _ => exact q.elim
theorem pg_sbD {o i : Expr} {io ii : IE} {pos : Pos} (ho : PE X o (tD G cl lo n io W)) (hi : PE X i (tD G cl lo n ii W)) (ha : ∀ v, assign (.Subscript o i pos) X.env v = (do
      let ov ← holding [v] (eval o X.env)
      let iv ← holding [v, ov] (eval i X.env)
      standAt pos
      holding [v, ov, iv] (setItem ov iv v)
      release [v, ov, iv] [])) : PG X (.Subscript o i pos) (gT G cl lo (n + 1) (.sub io ii) W) := by
  refine PG.imp (pg_sub ho hi set_list ha) fun x σ H Q ⟨F, ca, μ, env, d, hh, r, q⟩ => ?_
  simp only [asT] at q
  refine ⟨F, ca, μ, env, hh, (Ps.of (R := Rp G) hh q).imp fun v H1 ⟨F1, ca1, μ1, d1, x1, g1, r1, q1⟩ => ?_⟩
  have h1 := hh.step x1 g1
  refine ⟨F1, ca1, μ1, env, h1, (Ps.of (R := Rp G) h1 q1).imp fun w H2 ⟨F2, ca2, μ2, d2, x2, g2, r2, q2⟩ => ?_⟩
  have h2 := h1.step x2 g2
  split at q2
  · split at q2
    · rename_i μ3 e
      cases r2
      obtain ⟨k, a, xs, ys, vs, rfl, rfl, hk, hc, hH, rs, hl, e2, rfl⟩ := wrL_of g2 (Rp.mono x2.fle x2.pre r1) e
      simp only [Option.map_eq_some_iff] at e2
      obtain ⟨j, e3, rfl⟩ := e2
      rw [ixOf_eq, rs.length] at e3
      have rd := Rp.mono (x1.trans x2).fle (x1.trans x2).pre r
      exact ⟨a, vs, _, j, rfl, rfl, hH, e3, q2 σ F2 ca2 _ (Xt.wrote g2 hc hk _ _) (g2.wrote hc fun H' e' => ⟨_, e', rs.set rd j⟩) h2.e⟩
    · exact q2.elim
  · exact q2.elim
end
end Sd

set_option Elab.async false
set_option linter.all false
set_option maxRecDepth 100000
set_option maxHeartbeats 4000000
/-! Sd18: fields, comprehensions as values, names in parallel, exceptions. -/
namespace Sd
open PySem PySem.Spec PyProof.Rows L2 Pi
section
variable {G : Geo} {cl : Cll} {lo n m k : Nat} {F F' H H' : Hp} {ca ca' : List Addr} {μ μ' : Mu} {σ : L2.St} {W : WX} {X : Cx} {pins : List (Addr × Obj)} {s : Shared} {c : Bool} {E : Ends} {env : En}
theorem putF_zip {l : List Nat} (nd : (l.map G.nm).Nodup) {f : Nat} (hf : f ∈ l) {d : D} {v : V} (rv : Rp G F ca d v) : ∀ {fs : List (Nat × D)} {vs : List V}, (∀ q ∈ fs, q.1 ∈ l) → vs.length = fs.length → Rps G F ca (fs.map (·.2)) vs →
    ∃ ws, putF (G.nm f) v ((fs.map fun q => G.nm q.1).zip vs) = ((putN f d fs).map fun q => G.nm q.1).zip ws ∧ ws.length = (putN f d fs).length ∧ Rps G F ca ((putN f d fs).map (·.2)) ws
  | [], vs, _, hl, r => by
    cases vs with
    | nil => exact ⟨[v], rfl, rfl, .cons rv .nil⟩
    | cons _ _ => simp at hl
  | (y, e) :: fs, vs, hm, hl, r => by
    cases vs with
    | nil => simp at hl
    | cons w vs =>
      cases r with
      | cons r1 r2 =>
        have hy : y ∈ l := hm (y, e) (by simp)
        by_cases e1 : y = f
        · subst e1
          refine ⟨v :: vs, ?_, by simpa [putN] using hl, ?_⟩
          · simp [putN, putF]
          · simp only [putN, if_true, List.map_cons]
            exact .cons rv r2
        · have e2 : G.nm y ≠ G.nm f := fun z => e1 (nm_inj nd hy hf z)
          obtain ⟨ws, h1, h2, h3⟩ := putF_zip nd hf rv (fun q hq => hm q (by simp [hq])) (by simpa using hl) r2
          refine ⟨w :: ws, ?_, ?_, ?_⟩
          · simp only [putN, if_neg e1, List.map_cons, List.zip_cons_cons, putF, if_neg e2, h1]
          · simp only [putN, if_neg e1, List.length_cons, h2]
          · simp only [putN, if_neg e1, List.map_cons]
            exact .cons r1 h3
theorem ps_fldD (hk : Kls X G) {o e : Expr} {io ie : IE} {f : Nat} {pos pos' : Pos} (ho : PE X o (tD G cl lo n io W)) (he : PE X e (tD G cl lo (n + 1) ie W)) (hs : swapsWith e (some (.Attribute o (G.nm f) pos')) pos.line X.env = pure false) :
    PS X (.Assign [.Attribute o (G.nm f) pos'] e pos) (tS G cl lo (n + 2) (.asg (.attr io f) ie) W) := by
  refine PS.imp (ps_fld ho he hs) fun E σ H ⟨F, ca, μ, env, hh, q⟩ => ?_
  simp only [exS] at q
  refine ⟨F, ca, μ, env, hh, (Ps.of (R := Rp G) hh q).imp fun v H1 ⟨F1, ca1, μ1, d, x1, g1, r1, q1⟩ => ?_⟩
  have h1 := hh.step x1 g1
  simp only [asT] at q1
  refine ⟨F1, ca1, μ1, env, h1, (Ps.of (R := Rp G) h1 q1).imp fun w H2 ⟨F2, ca2, μ2, d2, x2, g2, r2, q2⟩ => ?_⟩
  have h2 := h1.step x2 g2
  have rd := Rp.mono x2.fle x2.pre r1
  split at q2
  · split at q2
    · rename_i hlo
      split at q2
      · rename_i c fs e1
        split at q2
        · rename_i C e2
          split at q2
          · rename_i e3
            obtain ⟨k1, k2, k3, k4⟩ := e3
            cases r2 with
            | cell hc =>
              have ok := hk c C e2 k2
              obtain ⟨dx, vs, e4, e5, e6⟩ := g2.cel _ _ _ hc e1
              have hf : f ∈ C.flds := by simpa using k3
              have hm : ∀ q ∈ fs, q.1 ∈ C.flds := fun q hq => by simpa using List.all_eq_true.mp k4 q hq
              obtain ⟨ws, z1, z2, z3⟩ := putF_zip ok.nd hf rd hm e5 e6
              refine ⟨_, _, dx, _, rfl, e4, ok.cl, ok.fld f hf, ?_, ?_⟩
              · rw [List.length_zip, List.length_map]; omega
              · rw [z1]
                exact q2 σ F2 ca2 _ (Xt.wrote g2 hc hlo _ _) (g2.wrote hc fun H' e' => ⟨dx, ws, e', z2, z3⟩) h2.e
          · exact q2.elim
        · exact q2.elim
      · exact q2.elim
    · exact q2.elim
  · exact q2.elim
/-! ### comprehensions -/
theorem pe_lcD (hc : X.calm = true) (hN : X.N.Nodup) {elt tg iter : Expr} {ifs : List Expr} {scope : Scope} {own : List (Str × Nat)} {pos : Pos} {it : Wk IE} {itg : Tg} {cond : Option IE} {ielt : IE} (hin : tgIn (own.map (·.2)) tgN itg = true) (hi : PI X tg iter (tDi G cl lo n it W)) (ok : BlkOk X.N X.env.scope scope own)
    (hg : ∀ (s : Shared) (H : Hp) (C : Addr) (cls : List (Str × Addr)) (fp : List Addr), PG (X.blk s H scope (compEnvC scope cls C X.env) fp) tg (gDD G tgN itg)) (ht : ∀ (s : Shared) (H : Hp) (C : Addr) (cls : List (Str × Addr)) (fp : List Addr), PTs (X.blk s H scope (compEnvC scope cls C X.env) fp) ifs (condD G cl lo n W0 cond))
    (he : ∀ (s : Shared) (H : Hp) (C : Addr) (cls : List (Str × Addr)) (fp : List Addr), PE (X.blk s H scope (compEnvC scope cls C X.env) fp) elt (tD G cl lo n ielt W0)) (hs : ∀ x, foldedSetIterable iter X.env x = pure x) :
    PE X (.ListComp elt [⟨tg, iter, ifs, 0⟩] scope pos) (tD G cl lo (n + 1) (.comp c (own.map (·.2)) itg it cond ielt) W) :=
  PE.imp (pe_lc hc hN hi ok hg ht he hs) fun σ H Q h => lcD hin h
theorem ps_setLcD (hc : X.calm = true) (hN : X.N.Nodup) {i : Nat} {y : Str} {py : Pos} {elt tg iter : Expr} {ifs : List Expr} {scope : Scope} {own : List (Str × Nat)} {pos spos : Pos} {it : Wk IE} {itg : Tg} {cond : Option IE} {ielt : IE} (hin : tgIn (own.map (·.2)) tgN itg = true) (hy : X.N[i]? = some y) (hyl : X.env.scope.names.lookup y = some .local)
    (hsw : swapsWith (.ListComp elt [⟨tg, iter, ifs, 0⟩] scope pos) (some (.Name y py)) spos.line X.env = pure true) (hi : PI X tg iter (tDi G cl lo n it W)) (ok : BlkOk X.N X.env.scope scope own)
    (hg : ∀ (s : Shared) (H : Hp) (C : Addr) (cls : List (Str × Addr)) (fp : List Addr), PG (X.blk s H scope (compEnvC scope cls C X.env) fp) tg (gDD G tgN itg)) (ht : ∀ (s : Shared) (H : Hp) (C : Addr) (cls : List (Str × Addr)) (fp : List Addr), PTs (X.blk s H scope (compEnvC scope cls C X.env) fp) ifs (condD G cl lo n W0 cond))
    (he : ∀ (s : Shared) (H : Hp) (C : Addr) (cls : List (Str × Addr)) (fp : List Addr), PE (X.blk s H scope (compEnvC scope cls C X.env) fp) elt (tD G cl lo n ielt W0)) (hs : ∀ x, foldedSetIterable iter X.env x = pure x) :
    PS X (.Assign [.Name y py] (.ListComp elt [⟨tg, iter, ifs, 0⟩] scope pos) spos) (tS G cl lo (n + 2) (.asg (.name i) (.comp c (own.map (·.2)) itg it cond ielt)) W) :=
  PS.imp (ps_setLc hc hN hy hyl hsw hi ok hg ht he hs) fun E σ H ⟨F, ca, μ, env, hh, q⟩ => by
    simp only [exS] at q
    refine lcD (c := c) hin ⟨F, ca, μ, env, hh, (Ps.of (R := Rp G) hh q).imp fun v H1 ⟨F1, ca1, μ1, d, x1, g1, r1, q1⟩ => ?_⟩
    simp only [asT] at q1
    split at q1
    · exact q1 _ F1 ca1 H1 Xt.rfl' g1 ((hh.e.mono x1.fle x1.pre).set r1)
    · exact q1.elim
theorem pe_lc2D (hc : X.calm = true) (hN : X.N.Nodup) {elt tg iter tg1 iter1 : Expr} {ifs1 : List Expr} {scope : Scope} {own : List (Str × Nat)} {vs1 : List Nat} {pos : Pos} {it it1 : Wk IE} {itg itg1 : Tg} {cond : Option IE} {ielt : IE} (hin : tgIn (own.map (·.2)) tgN itg = true) (hin1 : tgIn vs1 tgN itg1 = true) (hv : ∀ i ∈ vs1, i ∈ own.map (·.2)) (hi : PI X tg iter (tDi G cl lo n it W)) (ok : BlkOk X.N X.env.scope scope own)
    (hg : ∀ (s : Shared) (H : Hp) (C : Addr) (cls : List (Str × Addr)) (fp : List Addr), PG (X.blk s H scope (compEnvC scope cls C X.env) fp) tg (gDD G tgN itg))
    (hi1 : ∀ (s : Shared) (H : Hp) (C : Addr) (cls : List (Str × Addr)) (fp : List Addr), PI (X.blk s H scope (compEnvC scope cls C X.env) fp) tg1 iter1 (tDi G cl lo n it1 W0))
    (hg1 : ∀ (s : Shared) (H : Hp) (C : Addr) (cls : List (Str × Addr)) (fp : List Addr), PG (X.blk s H scope (compEnvC scope cls C X.env) fp) tg1 (gDD G tgN itg1))
    (ht1 : ∀ (s : Shared) (H : Hp) (C : Addr) (cls : List (Str × Addr)) (fp : List Addr), PTs (X.blk s H scope (compEnvC scope cls C X.env) fp) ifs1 (condD G cl lo n W0 cond))
    (he : ∀ (s : Shared) (H : Hp) (C : Addr) (cls : List (Str × Addr)) (fp : List Addr), PE (X.blk s H scope (compEnvC scope cls C X.env) fp) elt (tD G cl lo n ielt W0)) (hs : ∀ x, foldedSetIterable iter X.env x = pure x) (hs1 : ∀ env x, foldedSetIterable iter1 env x = pure x) :
    PE X (.ListComp elt [⟨tg, iter, [], 0⟩, ⟨tg1, iter1, ifs1, 0⟩] scope pos) (tD G cl lo (n + 1) (.comp2 c (own.map (·.2)) vs1 itg it itg1 it1 cond ielt) W) :=
  PE.imp (pe_lc2 hc hN hi ok hv hg (fun _ _ _ _ _ => pts_nil) hi1 hg1 ht1 he hs hs1) fun σ H Q h => lc2D hin hin1 h
theorem ps_setLc2D (hc : X.calm = true) (hN : X.N.Nodup) {i : Nat} {y : Str} {py : Pos} {elt tg iter tg1 iter1 : Expr} {ifs1 : List Expr} {scope : Scope} {own : List (Str × Nat)} {vs1 : List Nat} {pos spos : Pos} {it it1 : Wk IE} {itg itg1 : Tg} {cond : Option IE} {ielt : IE} (hin : tgIn (own.map (·.2)) tgN itg = true) (hin1 : tgIn vs1 tgN itg1 = true) (hy : X.N[i]? = some y) (hyl : X.env.scope.names.lookup y = some .local)
    (hsw : swapsWith (.ListComp elt [⟨tg, iter, [], 0⟩, ⟨tg1, iter1, ifs1, 0⟩] scope pos) (some (.Name y py)) spos.line X.env = pure true) (hv : ∀ i ∈ vs1, i ∈ own.map (·.2)) (hi : PI X tg iter (tDi G cl lo n it W)) (ok : BlkOk X.N X.env.scope scope own)
    (hg : ∀ (s : Shared) (H : Hp) (C : Addr) (cls : List (Str × Addr)) (fp : List Addr), PG (X.blk s H scope (compEnvC scope cls C X.env) fp) tg (gDD G tgN itg))
    (hi1 : ∀ (s : Shared) (H : Hp) (C : Addr) (cls : List (Str × Addr)) (fp : List Addr), PI (X.blk s H scope (compEnvC scope cls C X.env) fp) tg1 iter1 (tDi G cl lo n it1 W0))
    (hg1 : ∀ (s : Shared) (H : Hp) (C : Addr) (cls : List (Str × Addr)) (fp : List Addr), PG (X.blk s H scope (compEnvC scope cls C X.env) fp) tg1 (gDD G tgN itg1))
    (ht1 : ∀ (s : Shared) (H : Hp) (C : Addr) (cls : List (Str × Addr)) (fp : List Addr), PTs (X.blk s H scope (compEnvC scope cls C X.env) fp) ifs1 (condD G cl lo n W0 cond))
    (he : ∀ (s : Shared) (H : Hp) (C : Addr) (cls : List (Str × Addr)) (fp : List Addr), PE (X.blk s H scope (compEnvC scope cls C X.env) fp) elt (tD G cl lo n ielt W0)) (hs : ∀ x, foldedSetIterable iter X.env x = pure x) (hs1 : ∀ env x, foldedSetIterable iter1 env x = pure x) :
    PS X (.Assign [.Name y py] (.ListComp elt [⟨tg, iter, [], 0⟩, ⟨tg1, iter1, ifs1, 0⟩] scope pos) spos) (tS G cl lo (n + 2) (.asg (.name i) (.comp2 c (own.map (·.2)) vs1 itg it itg1 it1 cond ielt)) W) :=
  PS.imp (ps_setLc2 hc hN hy hyl hsw hi ok hv hg (fun _ _ _ _ _ => pts_nil) hi1 hg1 ht1 he hs hs1) fun E σ H ⟨F, ca, μ, env, hh, q⟩ => by
    simp only [exS] at q
    refine lc2D (c := c) hin hin1 ⟨F, ca, μ, env, hh, (Ps.of (R := Rp G) hh q).imp fun v H1 ⟨F1, ca1, μ1, d, x1, g1, r1, q1⟩ => ?_⟩
    simp only [asT] at q1
    split at q1
    · exact q1 _ F1 ca1 H1 Xt.rfl' g1 ((hh.e.mono x1.fle x1.pre).set r1)
    · exact q1.elim
end
end Sd

set_option Elab.async false
set_option linter.all false
set_option maxRecDepth 100000
set_option maxHeartbeats 4000000
/-! Sd19: what is not walked; names in parallel; raise; try. -/
namespace Sd
open PySem PySem.Spec PyProof.Rows L2 Pi
section
variable {G : Geo} {cl : Cll} {lo n m k : Nat} {F F' H H' : Hp} {ca ca' : List Addr} {μ μ' : Mu} {σ : L2.St} {W : WX} {X : Cx} {pins : List (Addr × Obj)} {s : Shared} {c : Bool} {E : Ends} {env : En}
theorem pe_badD {e : Expr} : PE X e (tD G cl lo n .bad W) := ⟨fun pins s σ H Q I ⟨F, ca, μ, env, hh, q⟩ => by
  cases n <;> exact q.elim⟩
theorem pt_badD {e : Expr} : PT X e (tDt G cl lo n .bad W) := ⟨fun pins s σ H Q I ⟨F, ca, μ, env, hh, q⟩ => by
  cases n <;> exact q.elim⟩
theorem ps_badD {st : Stmt} : PS X st (tS G cl lo n .bad W) := ⟨fun pins s σ H E I ⟨F, ca, μ, env, hh, q⟩ => by
  cases n <;> exact q.elim⟩
theorem evE_tup {es : List IE} : evE G.T cl lo (n + 1) env (.tup es) μ = (evL (evE G.T cl lo n env) es μ).bind fun ds μ => newT ds μ := rfl
theorem exS_asg {t : Tgt} {e : IE} : exS G.T cl lo (n + 1) (.asg t e) env μ = SOut.of (evE G.T cl lo n env e μ) env fun d μ => asT G.T cl lo n t d env μ := rfl
theorem ps_parD {i j : Nat} {x y : Str} {a b : Expr} {ia ib : IE} {px py pt pos : Pos} {kt k2 pt2} (hc : X.calm = true) (hN : X.N.Nodup) (hi : X.N[i]? = some x) (hj : X.N[j]? = some y) (hij : i ≠ j)
    (hx : X.env.scope.names.lookup x = some .local) (hy : X.env.scope.names.lookup y = some .local) (ha : PA X [a, b] (tDs G cl lo (n + 1) [ia, ib] W))
    (hw : swappedStores [.Tuple [.Name x px, .Name y py] kt pt] (.Tuple [a, b] k2 pt2) X.env = pure (some [x, y]))
    (hs : swapsWithSole [.Tuple [.Name x px, .Name y py] kt pt] (.Tuple [a, b] k2 pt2) pos.line X.env = pure false) :
    PS X (.Assign [.Tuple [.Name x px, .Name y py] kt pt] (.Tuple [a, b] k2 pt2) pos) (tS G cl lo (n + 3) (.asg (.tup [.name i, .name j]) (.tup [ia, ib])) W) := by
  refine PS.imp (ps_par hc hN hi hj hij hx hy ha hw hs) fun E σ H ⟨F, ca, μ, env, hh, q⟩ => ⟨F, ca, μ, env, hh, ?_⟩
  rw [exS_asg, evE_tup] at q
  cases e0 : evL (evE G.T cl lo (n + 1) env) [ia, ib] μ with
  | stuck => rw [e0] at q; exact q.elim
  | ex c2 fs2 μ2 => rw [e0] at q; exact fun d F2 ca2 H2 y g r => q σ d F2 ca2 H2 y g (hh.e.mono y.fle y.pre) r
  | ok ds μ1 =>
    rw [e0, Out.bind_ok] at q
    unfold newT at q
    split at q
    · exact q.elim
    · rw [SOut.of_ok] at q
      simp only [asT] at q
      split at q
      · rename_i hl
        match ds, hl with
        | [d, e], _ =>
          intro vs F1 ca1 H1 x1 g1 r1
          obtain ⟨v, w, rfl, rv, rw'⟩ := rps2 r1
          refine ⟨v, w, rfl, ?_⟩
          have q1 := Ps.step x1 q
          simp only [asL] at q1
          have er := (hh.e.mono x1.fle x1.pre)
          by_cases hi1 : i < env.length
          · by_cases hj1 : j < (env.set i (some d)).length
            · simp only [if_pos hi1, SOut.then, if_pos hj1] at q1
              exact q1 _ F1 ca1 H1 Xt.rfl' g1 ((er.set rv).set rw')
            · simp only [if_pos hi1, SOut.then, if_neg hj1] at q1
              exact q1.elim
          · simp only [if_neg hi1, SOut.then] at q1
            exact q1.elim
      · exact q.elim
/-- raise C(..), no own __init__ -/
theorem ps_raiseD {e : Expr} {c : Nat} {C : Kl} {pos : Pos} {ies : List IE} (hc : X.calm = true) (tk : Takes X W) (hC : G.T.cls[c]? = some C) (hf : C.flds = []) (hi : ∀ env μ, ∃ ds, evL (evE G.T cl lo n env) ies μ = .ok ds μ) (he : PMk X e (fun _ H Q => Q (.ref (G.cad c)) none H)) :
    PS X (.Raise (some e) none pos) (tS G cl lo (n + 1) (.raise c ies) W) :=
  PS.imp (ps_raise hc tk he) fun E σ H ⟨F, ca, μ, env, hh, q⟩ => by
    obtain ⟨ds, e1⟩ := hi env μ
    simp only [exS, e1, SOut.of_ok, hC, hf] at q
    exact q σ none F ca H Xt.rfl' hh.g hh.e (.inl ⟨rfl, rfl⟩)
end
end Sd

set_option Elab.async false
set_option linter.all false
set_option maxRecDepth 100000
set_option maxHeartbeats 4000000
/-! Sd20: out of a def: what the body does is what the def promises. -/
namespace Sd
open PySem PySem.Spec PyProof.Rows L2 Pi
section
variable {G : Geo} {cl : Cll} {lo n m k : Nat} {F F' H H' : Hp} {ca ca' : List Addr} {μ μ' : Mu} {σ : L2.St} {W : WX} {X : Cx} {pins : List (Addr × Obj)} {s : Shared} {c : Bool} {env : En}
theorem ExAt.fresh (p : Pre ca ca') {fs : List D} {d : Option Addr} {cc : Nat} {F2 : Hp} (l : Le F' F2) (h : ExAt G F' ca' H' cc fs d) (o : fs.all (okD ca.length fzN) = true) : ExAt G F2 ca H' cc fs d := by
  rcases h with h | ⟨C, dd, vs, h1, h2, h3, h4, h5⟩
  · exact .inl h
  · exact .inr ⟨C, dd, vs, h1, h2, h3, h4, Rps.mono l Pre.rfl' (okD_rps p h5 o)⟩
theorem finish_ok {md : Mode} {o : SOut} {Q : VK} {E : XK} (hl : lo ≤ μ.length) (g : Gd G F ca μ H) (h : Pk G lo (Rp G) F ca μ H (finish md μ o) [] Q (fun cls d _ H' => E cls d H')) :
    Ps G (loOf md lo μ) F ca μ H o { nx := fun _ H' => Q .non H', rt := Q } (fun cls d _ H' => E cls d H') := by
  cases md with
  | keep =>
    cases o with
    | next env m => exact fun σ F2 ca2 H2 y g2 r => h .non F2 ca2 H2 y g2 .non
    | ret d m => exact fun v F2 ca2 H2 y g2 r => h v F2 ca2 H2 y g2 r
    | ex c fs env m => exact fun σ d F2 ca2 H2 y g2 r e => h d F2 ca2 H2 y g2 e
    | brk env m => exact h.elim
    | cnt env m => exact h.elim
    | stuck => exact h.elim
  | pure =>
    cases o with
    | next env m => exact fun σ F2 ca2 H2 y g2 r => h .non _ ca H2 ((y.shrink g g2 (fun _ _ => rfl) rfl).lower hl) (g.shrinkP y g2) .non
    | ret d m =>
      simp only [Pi.finish] at h
      intro v F2 ca2 H2 y g2 r
      split at h
      · rename_i d' e
        exact h v _ ca H2 ((y.shrink g g2 (fun _ _ => rfl) rfl).lower hl) (g.shrinkP y g2) (fz_rp g2 y.pre fzN d d' v r (by rw [g.len]; exact e))
      · exact h.elim
    | ex c fs env m =>
      simp only [Pi.finish] at h
      intro σ d F2 ca2 H2 y g2 r e
      split at h
      · rename_i ho
        exact h d _ ca H2 ((y.shrink g g2 (fun _ _ => rfl) rfl).lower hl) (g.shrinkP y g2) (e.fresh y.pre (frost_le g2) (by rw [g.len]; exact ho))
      · exact h.elim
    | brk env m => exact h.elim
    | cnt env m => exact h.elim
    | stuck => exact h.elim
  | drop =>
    have len : ∀ {μ' : Mu}, μ.length ≤ μ'.length → (μ'.take μ.length).length = μ.length := fun hh => by rw [List.length_take]; omega
    have mu : ∀ {F2 H2 : Hp} {ca2 : List Addr} {μ' : Mu}, Xt lo F ca μ H F2 ca2 μ' H2 → ∀ k, k < lo → (μ'.take μ.length)[k]? = μ[k]? := fun y k hk => by
      rw [List.getElem?_take, if_pos (Nat.lt_of_lt_of_le hk hl)]
      exact y.mu k hk
    cases o with
    | next env m =>
      simp only [Pi.finish] at h
      intro σ F2 ca2 H2 y g2 r
      split at h
      · rename_i ho
        exact h .non _ ca H2 (y.shrink g g2 (mu y) (len y.ml)) (g.shrinkD y g2 ho) .non
      · exact h.elim
    | ret d m =>
      simp only [Pi.finish] at h
      intro v F2 ca2 H2 y g2 r
      split at h
      · rename_i d' e
        split at h
        · rename_i ho
          exact h v _ ca H2 (y.shrink g g2 (mu y) (len y.ml)) (g.shrinkD y g2 ho) (fz_rp g2 y.pre fzN d d' v r (by rw [g.len]; exact e))
        · exact h.elim
      · exact h.elim
    | ex c fs env m =>
      simp only [Pi.finish] at h
      intro σ d F2 ca2 H2 y g2 r e
      split at h
      · rename_i ho
        rw [Bool.and_eq_true] at ho
        exact h d _ ca H2 (y.shrink g g2 (mu y) (len y.ml)) (g.shrinkD y g2 ho.2) (e.fresh y.pre (frost_le g2) (by rw [g.len]; exact ho.1))
      · exact h.elim
    | brk env m => exact h.elim
    | cnt env m => exact h.elim
    | stuck => exact h.elim
theorem start_env {N : List Str} {ds : List D} {vs : List V} (r : Rps G F ca ds vs) {k : Nat} (hk : k = N.length - vs.length) : EnvR G F ca (ds.map some ++ List.replicate k none) (L2.start N vs) := by
  subst hk
  refine ⟨by simp [L2.start, r.length], fun i d e => ?_⟩
  rw [List.getElem?_append] at e
  split at e
  · rename_i h
    rw [List.getElem?_map] at e
    cases e2 : ds[i]? with
    | none => rw [e2] at e; cases e
    | some d' =>
      rw [e2] at e
      cases e
      obtain ⟨v, h1, h2⟩ := r.get e2
      refine ⟨v, ?_, h2⟩
      unfold L2.start
      rw [List.getElem?_append, if_pos (by simp [← r.length]; simpa using h), List.getElem?_map, h1]
      rfl
  · rw [List.getElem?_replicate] at e
    split at e <;> cases e
end
/-- the names that methods have -/
structure NmOk (G : Geo) : Prop where
  n0 : G.nm 0 = "__eq__"
  n1 : G.nm 1 = PySem.dunder (Operator.Add).info.2
  n2 : G.nm 2 = PySem.dunder (Operator.Sub).info.2
  n3 : G.nm 3 = PySem.dunder (Operator.Mult).info.2
  n4 : G.nm 4 = PySem.dunder (Operator.FloorDiv).info.2
  n5 : G.nm 5 = PySem.dunder (Operator.Mod).info.2
  n6 : G.nm 6 = PySem.dunder (Operator.Pow).info.2
  n7 : G.nm 7 = "__len__"
  n8 : G.nm 8 = "__call__"
  n9 : G.nm 9 = "__neg__"
/-- a def of the text, its IR held against its body -/
structure FnD (P : Program) (w : World) (K : PySem.W.Frag) (mg : Str → Option Value) (base : Heap) (G : Geo) (f : Nat) (Fn : Fn) : Prop where
  ex : ∃ (x qual : Str) (params : Arguments) (body : List Stmt) (scope : Scope) (dvs : List V) (kws : List (Str × V)) (fd : FuncData) (N ps : List Str), FunD K x qual params body scope dvs kws (G.fad f) fd ∧ FnScope N ps scope ∧ ps.length = Fn.npar ∧ N.length = Fn.nloc ∧
    (∀ n, n ≤ Fn.npar → Fn.npar - n ≤ Fn.dfl.length → ∃ dvs ds, Vals dvs ds ∧ (∀ F ca, Rps G F ca (Fn.dfl.drop (Fn.dfl.length - (Fn.npar - n))) dvs) ∧ Binds K fd ps ds) ∧
    ∀ (cl : Cll) (k : Nat) (W : WX) (cdv : Value) (A : Around) (outer : List Env) (s : Shared) (H : Hp) (E : XK), Wd (cxOf (L2.CX P w) P w K mg base N qual scope (G.fad f) cdv A outer s H E) G cl k W → Takes (cxOf (L2.CX P w) P w K mg base N qual scope (G.fad f) cdv A outer s H E) W →
      PassesOwn (model P w) (cxOf (L2.CX P w) P w K mg base N qual scope (G.fad f) cdv A outer s H E).A (cxOf (L2.CX P w) P w K mg base N qual scope (G.fad f) cdv A outer s H E).env (cxOf (L2.CX P w) P w K mg base N qual scope (G.fad f) cdv A outer s H E).xe →
      ∀ lo, PSs (cxOf (L2.CX P w) P w K mg base N qual scope (G.fad f) cdv A outer s H E) body (tSs G cl lo bodyN Fn.code W)
/-- the text -/
structure Txt (P : Program) (w : World) (K : PySem.W.Frag) (mg : Str → Option Value) (base : Heap) (G : Geo) : Prop where
  hK : K = G.K
  nm : NmOk G
  fn : ∀ f Fn, G.T.fns[f]? = some Fn → FnD P w K mg base G f Fn
  kl : ∀ X : Cx, X.K = K → Kls X G
/-- the promises of all defs, j calls deep -/
structure Prom (P : Program) (w : World) (K : PySem.W.Frag) (mg : Str → Option Value) (base : Heap) (G : Geo) (cl : Cll) (k : Nat) : Prop where
  all : ∀ X : Cx, X.prog = P → X.w = w → X.K = K → X.mg = mg → X.base = base → Fns X G cl k
theorem run_len {T : Tab} : ∀ (j lo f : Nat) (ds : List D) (μ : Mu) (Fn : Fn), T.fns[f]? = some Fn → ds.length ≠ Fn.npar → run T j lo f ds μ = .stuck
  | 0, _, _, _, _, _, _, _ => rfl
  | j + 1, lo, f, ds, μ, Fn, h, hn => by
    simp only [Pi.run, h, if_neg hn]
theorem prom_all {P : Program} {w : World} {K : PySem.W.Frag} {mg : Str → Option Value} {base : Heap} {G : Geo} (t : Txt P w K mg base G) : ∀ j, Prom P w K mg base G (run G.T j) (8 * j)
  | 0 => ⟨fun X hP hw hK hm hb => by
    subst hP hw hK hm hb
    refine ⟨run_len 0, fun f Fn e => ?_⟩
    obtain ⟨x, qual, params, body, scope, dvs, kws, fd, N, ps, hF, hS, hp, hN, hd, hb⟩ := (t.fn f Fn e).ex
    refine ⟨fd, ps, ⟨fun vs H Q E h => h.1.trans hp.symm, fun A outer s H args us vs Q E hr e0 hb hv hs => ?_⟩, hF.kp, hp, hd⟩
    obtain ⟨_, lo, F, ca, μ, ds, _, _, _, q⟩ := hs
    exact q.elim⟩
  | j + 1 => ⟨fun X hP hw hK hm hb => by
    subst hP hw hK hm hb
    refine ⟨run_len (j + 1), fun f Fn e => ?_⟩
    obtain ⟨x, qual, params, body, scope, dvs, kws, fd, N, ps, hF, hS, hp, hN, hd, hbody⟩ := (t.fn f Fn e).ex
    refine ⟨fd, ps, ?_, hF.kp, hp, hd⟩
    refine hF.ok (k := 8 * j + 7) hS (fun vs H Q E h => h.1.trans hp.symm) fun cdv A outer s H vs Q E hr hs => ?_
    obtain ⟨hvl, lo, F, ca, μ, ds, hl, g, r, q⟩ := hs
    have tk : Takes (cxOf (L2.CX X.prog X.w) X.prog X.w X.K X.mg X.base N qual scope (G.fad f) cdv A outer s H E) (fun cls d _ H => E cls d H) := takes_of rfl rfl rfl rfl
    have po := passes_of (X := cxOf (L2.CX X.prog X.w) X.prog X.w X.K X.mg X.base N qual scope (G.fad f) cdv A outer s H E) rfl
    have wd : Wd (cxOf (L2.CX X.prog X.w) X.prog X.w X.K X.mg X.base N qual scope (G.fad f) cdv A outer s H E) G (run G.T j) (8 * j) (fun cls d _ H => E cls d H) :=
      ⟨t.hK, (prom_all t j).all _ rfl rfl rfl rfl rfl, t.kl _ rfl, hr, fun σ => passAt tk σ, t.nm.n0, t.nm.n1, t.nm.n2, t.nm.n3, t.nm.n4, t.nm.n5, t.nm.n6, t.nm.n7, t.nm.n8, t.nm.n9⟩
    have hlen : ds.length = Fn.npar := r.length.trans hvl
    simp only [Pi.run, e, if_pos hlen] at q
    refine ⟨_, hbody (run G.T j) (8 * j) _ cdv A outer s H E wd tk po (loOf Fn.mode lo μ), F, ca, μ, _, ⟨?_, g, start_env r (by rw [hN, hvl])⟩, finish_ok hl g q⟩
    cases Fn.mode <;> first | exact hl | exact Nat.le_refl _⟩
end Sd

set_option Elab.async false
set_option linter.all false
set_option maxRecDepth 100000
set_option maxHeartbeats 4000000
/-! Sd21: the IR of an expression, out of its text; it is read so. -/
namespace Sd
open PySem PySem.Spec PyProof.Rows L2 Pi
/-- where a text stands -/
structure Ck where
  N : List Str
  sc : Scope
  blk : Option Scope
  gl : List (Str × Gk)
  free : List Str
  cells : List (Nat × Nat)
  nms : List Str
  mkc : List Nat
def placeS (x : Str) : List Str → Option Nat
  | [] => none
  | y :: r => if x = y then some 0 else (placeS x r).map (· + 1)
theorem placeS_get {x : Str} : ∀ {l : List Str} {i : Nat}, placeS x l = some i → l[i]? = some x
  | [], i, h => by cases h
  | y :: r, i, h => by
    simp only [placeS] at h
    split at h
    · rename_i e
      cases h
      rw [e]; rfl
    · simp only [Option.map_eq_some_iff] at h
      obtain ⟨j, h1, rfl⟩ := h
      simpa using placeS_get h1
def Ck.kind (k : Ck) (x : Str) : Option NameKind := k.sc.names.lookup x
def Ck.vis (k : Ck) (x : Str) : Bool := decide (k.kind x = some .local) || decide (k.kind x = some .cell) || decide (k.kind x = some .free)
def Ck.fnok (k : Ck) (x : Str) : Bool := match k.blk with
  | none => true
  | some s => s.names.lookup x == some .cell
def Ck.glob (k : Ck) (x : Str) : Bool := decide (k.kind x = some .globalImplicit)
def plainN (x : Str) : Bool := !(x == ("__debug__" : Str)) && !(x == ("__classdict__" : Str))
def Ck.cell (k : Ck) (p : Pos) : Bool := k.cells.contains (p.line, p.col)
def glD : Gk → Option D
  | .val d => some d
  | .fn i => some (.fn i)
  | .cls c => some (.cls c)
  | .bf _ => none
def opB? : Operator → Option BOp
  | .Add => some .add
  | .Sub => some .sub
  | .Mult => some .mul
  | .FloorDiv => some .fdiv
  | .Mod => some .mod
  | .Pow => some .pow
  | _ => none
theorem opB?_eq {op : Operator} {b : BOp} (h : opB? op = some b) : opB b = op := by
  cases op <;> simp [opB?] at h <;> subst h <;> rfl
def opC? : CmpOp → COp
  | .Eq => .eq
  | .NotEq => .ne
  | .Lt => .lt
  | .LtE => .le
  | .Gt => .gt
  | .GtE => .ge
  | .Is => .is
  | .IsNot => .isnot
  | .In => .isin
  | .NotIn => .notin
theorem opC?_eq (op : CmpOp) : opC (opC? op) = op := by cases op <;> rfl
def isStar : Expr → Bool
  | .Starred _ _ => true
  | _ => false
theorem star_cons {e : Expr} {es : List Expr} {env : PySem.Env} (h : isStar e = false) : starEach (e :: es) env = (false, eval e env) :: starEach es env := by
  cases e <;> first | rfl | cases h
theorem star_any {es : List Expr} {env : PySem.Env} {pos : Pos} (h : es.all (fun e => !isStar e) = true) : (backTo pos (starEach es env)).any (·.1) = false := by
  induction es with
  | nil => rfl
  | cons e es ih =>
    rw [List.all_cons, Bool.and_eq_true] at h
    rw [star_cons (by simpa using h.1)]
    show (false || (backTo pos (starEach es env)).any (·.1)) = false
    rw [ih h.2]
    rfl
/-- the context is as told -/
structure CkOk (k : Ck) (X : Cx) (G : Geo) (cl : Cll) (lv : Nat) (W : WX) : Prop where
  N : X.N = k.N
  nd : k.N.Nodup
  sc : X.env.scope = k.sc
  kd : k.sc.kind = .function
  fn : ∀ x, k.fnok x = true → X.fn x = true
  gl : ∀ x g, k.gl.lookup x = some g → (match g with
    | .val d => ∃ u v, X.mg x = some u ∧ RelV v u ∧ ∀ F ca, Rp G F ca d v
    | .fn i => X.mg x = some (.ref (G.fad i))
    | .cls c => X.mg x = some (.ref (G.cad c))
    | .bf id => X.mg x = some (.builtin id))
  free : ∀ x, k.free.contains x = true → X.mg x = none
  nms : ∀ m i, placeS m k.nms = some i → G.nm i = m
  gc : ∀ x c, k.gl.lookup x = some (.cls c) → c < G.T.cls.length
  gf : ∀ x i, k.gl.lookup x = some (.fn i) → ∃ F, G.T.fns[i]? = some F
  mkc : ∀ c, k.mkc.contains c = true → ∃ C, G.T.cls[c]? = some C ∧ C.exc = false
  wd : Wd X G cl lv W
  is : IsOk X G
  cm : X.calm = true
  po : PassesOwn (model X.prog X.w) X.A X.env X.xe
section
variable {G : Geo} {cl : Cll} {lo n m lv : Nat} {W : WX} {X : Cx} {k : Ck}
theorem CkOk.vis (o : CkOk k X G cl lv W) {x : Str} (h : k.vis x = true) : Vis X.env.scope x := by
  unfold Vis
  rw [o.sc]
  unfold Ck.vis at h
  rcases Bool.or_eq_true_iff.mp h with h | h
  · rcases Bool.or_eq_true_iff.mp h with h | h
    · exact .inl (of_decide_eq_true h)
    · exact .inr (.inl (of_decide_eq_true h))
  · exact .inr (.inr (of_decide_eq_true h))
theorem CkOk.glob (o : CkOk k X G cl lv W) {x : Str} (h : k.glob x = true) : Gl X x := by
  unfold Gl
  show X.env.scope.names.lookup x = _
  rw [o.sc]
  exact of_decide_eq_true h
theorem pe_zero {e : Expr} {ie : IE} : PE X e (tD G cl lo 0 ie W) := ⟨fun pins s σ H Q I ⟨F, ca, μ, env, hh, q⟩ => q.elim⟩
theorem pt_zero {e : Expr} {ie : IE} : PT X e (tDt G cl lo 0 ie W) := ⟨fun pins s σ H Q I ⟨F, ca, μ, env, hh, q⟩ => q.elim⟩
/-- a name -/
def cName (k : Ck) (x : Str) : IE := if plainN x then (if k.vis x then (match placeS x k.N with
    | some i => .var i
    | none => .bad) else if k.glob x then (match (k.gl.lookup x).bind glD with
    | some d => .glb d
    | none => .bad) else .bad) else .bad
theorem cName_ok (o : CkOk k X G cl lv W) {x : Str} {pos : Pos} : PE X (.Name x pos) (tD G cl lo n (cName k x) W) := by
  unfold cName
  split
  · rename_i hp
    simp only [plainN, Bool.and_eq_true, Bool.not_eq_true'] at hp
    split
    · rename_i hv
      split
      · rename_i i hi
        exact pe_varD (by rw [o.N]; exact placeS_get hi) (o.vis hv) hp.1 hp.2
      · exact pe_badD
    · split
      · rename_i hg
        split
        · rename_i d hd
          simp only [Option.bind_eq_some_iff] at hd
          obtain ⟨g, h1, h2⟩ := hd
          have hh := o.gl x g h1
          cases g with
          | val d' =>
            cases h2
            obtain ⟨u, v, hm, r, hr⟩ := hh
            exact pe_glbD (o.glob hg) hm r hr hp.1
          | fn i =>
            cases h2
            exact pe_glbD (v := .ref (G.fad i)) (o.glob hg) hh rfl (fun F ca => .fn i) hp.1
          | cls c =>
            cases h2
            exact pe_glbD (v := .ref (G.cad c)) (o.glob hg) hh rfl (fun F ca => .cls c) hp.1
          | bf id => cases h2
        · exact pe_badD
      · exact pe_badD
  · exact pe_badD
def cConst : Const → IE
  | .int i => .cst (.int i)
  | .bool b => .cst (.bl b)
  | .none => .cst .non
  | .str x => .cst (.str x)
  | _ => .bad
theorem cConst_ok {c : Const} {j : Nat} {pos : Pos} : PE X (.Constant c j pos) (tD G cl lo n (cConst c) W) := by
  cases c <;> first | exact pe_badD | skip
  · exact pe_cstD (.inr (.inr (.inl ⟨rfl, rfl⟩)))
  · exact pe_cstD (.inr (.inl ⟨_, rfl, rfl⟩))
  · exact pe_cstD (.inl ⟨_, rfl, rfl⟩)
  · exact pe_cstD (.inr (.inr (.inr ⟨_, rfl, rfl⟩)))

/-! ### into a comprehension's block -/
def ownOf (N : List Str) (scope : Scope) : List (Str × Nat) := scope.names.filterMap fun y => if y.2 = .local ∨ y.2 = .cell then (placeS y.1 N).map fun i => (y.1, i) else none
def Ck.blk' (k : Ck) (scope : Scope) : Ck := { k with sc := relS scope k.sc, blk := some scope }
theorem Kls.to {X X' : Cx} (h : Kls X G) (e : X'.K = X.K) : Kls X' G := fun c C hc he => by
  have k := h c C hc he
  exact ⟨by rw [e]; exact k.cl, fun f hf => by rw [e]; exact k.fld f hf, k.nd, k.nofld, fun m f hl => by rw [e]; exact k.meth m f hl, by rw [e]; exact k.sf, by rw [e]; exact k.ob, by rw [e]; exact k.ne, by rw [e]; exact k.mkr⟩
theorem IsOk.to {X X' : Cx} (h : IsOk X G) (e : X'.K = X.K) : IsOk X' G := by
  refine ⟨?_, ?_, ?_, ?_, ?_, ?_, ?_⟩
  · rw [e]; exact h.kb
  · rw [e]; exact h.ko
  · rw [e]; exact h.cb
  · rw [e]; exact h.cc
  · rw [e]; exact h.ca
  · rw [e]; exact h.cn
  · rw [e]; exact h.ct
theorem CkOk.block (o : CkOk k X G cl lv W) {scope : Scope} (hk : scope.kind = .function) (s : Shared) (H : Hp) (C : Addr) (cs : List (Str × Addr)) (fp : List Addr) : CkOk (k.blk' scope) (X.blk s H scope (compEnvC scope cs C X.env) fp) G cl lv W0 where
  N := o.N
  nd := o.nd
  sc := by
    show relabel scope X.env = relS scope k.sc
    rw [← o.sc]
    rfl
  kd := hk
  fn := fun x h => h
  gl := o.gl
  free := o.free
  nms := o.nms
  gc := o.gc
  gf := o.gf
  mkc := o.mkc
  wd := ⟨o.wd.hK, ⟨o.wd.hF.len, o.wd.hF.ok⟩, o.wd.hk.to rfl, o.wd.rm, fun σ => by
    intro pins s H u s' _ hc
    obtain ⟨_, _, _, _, _, _, _, _, _, _, _, _, h⟩ := hc
    exact h.elim, o.wd.n0, o.wd.n1, o.wd.n2, o.wd.n3, o.wd.n4, o.wd.n5, o.wd.n6, o.wd.n7, o.wd.n8, o.wd.n9⟩
  is := o.is.to rfl
  cm := o.cm
  po := PassesOwn.never

/-! ### small conditions -/
def notSet : Expr → Bool
  | .Set _ _ _ => false
  | _ => true
theorem fsi_ok {iter : Expr} {env : PySem.Env} (h : notSet iter = true) : ∀ x, foldedSetIterable iter env x = pure x := fun x => by
  cases iter <;> first | rfl | cases h
def plainT : Expr → Bool
  | .UnaryOp .Not _ _ => false
  | .BoolOp _ _ _ => false
  | .IfExp _ _ _ _ => false
  | .Compare _ _ _ _ => false
  | _ => true
theorem isTrue_plain {e : Expr} {env : PySem.Env} (h : plainT e = true) : ∀ whole, isTrue e env whole = (do let v ← whole; standAt e.pos; holding [v] (truthy v)) := fun whole => by
  cases e with
  | UnaryOp op x p => cases op <;> first | rfl | cases h
  | BoolOp _ _ _ => cases h
  | IfExp _ _ _ _ => cases h
  | Compare _ _ _ _ => cases h
  | _ => rfl
def noComp : Expr → Bool
  | .ListComp _ _ _ _ => false
  | .SetComp _ _ _ _ => false
  | .DictComp _ _ _ _ _ => false
  | _ => true
theorem sw_none {e : Expr} {t : Option Expr} {l : Nat} {env : PySem.Env} (h : noComp e = true) : swapsWith e t l env = pure false := by
  cases e <;> first | rfl | cases h
theorem assign_cons {e : Expr} {es : List Expr} {env : PySem.Env} (h : isStar e = false) : assignEach (e :: es) env = (false, assign e env) :: assignEach es env := by
  cases e <;> first | rfl | cases h
theorem pe_bool1 {e : Expr} {op : BoolOp} {pos : Pos} {t : TE} (h : PE X e t) : PE X (.BoolOp op [e] pos) t := ⟨fun pins s σ H Q I q => by
  show wpAny _ _ (boolOp pos op (evalEach [e] X.env)) _ _ s
  exact h.run pins s σ H Q I q⟩
end
end Sd

set_option Elab.async false
set_option linter.all false
set_option maxRecDepth 100000
set_option maxHeartbeats 4000000
/-! Sd22: the IR of expressions. -/
namespace Sd
open PySem PySem.Spec PyProof.Rows L2 Pi
/-- a class in isinstance -/
def cTy (k : Ck) : Expr → Option Ty
  | .Name x _ => if k.glob x && plainN x then (match k.gl.lookup x with
    | some (.cls c) => some (.own c)
    | some _ => none
    | none => if k.free.contains x then (if x = "int" then some .int else if x = "bool" then some .bool else if x = "str" then some .str else if x = "list" then some .list else if x = "tuple" then some .tuple else if x = "dict" then some .dict else none) else none) else none
  | _ => none
/-- a built-in function's or type's name -/
def cPr (x : Str) (n : Nat) : Option Pr :=
  if x = "len" ∧ n = 1 then some .len else if x = "list" ∧ n = 1 then some .list else if x = "tuple" ∧ n = 1 then some .tuple else if x = "sum" ∧ n = 1 then some .sum else if x = "all" ∧ n = 1 then some .all
  else if x = "any" ∧ n = 1 then some .any else if x = "max" ∧ n = 2 then some .max2 else if x = "min" ∧ n = 2 then some .min2 else if x = "abs" ∧ n = 1 then some .abs else if x = "int" ∧ n = 1 then some .int else if x = "sorted" ∧ n = 1 then some .sorted else none
def cBm (x : Str) (n : Nat) : Option Pr :=
  if x = "append" ∧ n = 1 then some .append else if x = "extend" ∧ n = 1 then some .extend else if x = "pop" ∧ n = 0 then some .pop else if x = "pop" ∧ n = 1 then some .popAt else none
/-- a walk's target -/
def cTg (k : Ck) : Nat → Expr → Option Tg
  | _, .Name x _ => if (decide (k.kind x = some .local) || (decide (k.kind x = some .cell) && k.fnok x)) then (placeS x k.N).map .name else none
  | n + 1, .Tuple es _ _ => if es.all (fun e => !isStar e) then (optAll (cTg k n) es).map .tup else none
  | _, _ => none
def isSlice : Expr → Bool
  | .Slice _ _ _ _ => true
  | _ => false
mutual
def cE : Nat → Ck → Expr → IE
  | 0, _, _ => .bad
  | m + 1, k, e => match e with
    | .Name x _ => cName k x
    | .Constant c _ _ => cConst c
    | .BinOp a op b p => (match opB? op with
      | some bop => .bin (k.cell p) bop (cE m k a) (cE m k b)
      | none => .bad)
    | .UnaryOp .USub a _ => .neg (cE m k a)
    | .UnaryOp .Not a _ => .not (cE m k a)
    | .Compare a [op] [b] _ => if behindInMarks op b then .bad else .cmp (opC? op) (cE m k a) (cE m k b)
    | .Compare a [op, op'] [b, c] _ => if behindInMarks op b || behindInMarks op' c then .bad else .cmp2 (opC? op) (opC? op') (cE m k a) (cE m k b) (cE m k c)
    | .BoolOp .And (a :: b :: r) p => .and (cE m k a) (cE m k (.BoolOp .And (b :: r) p))
    | .BoolOp .Or (a :: b :: r) p => .or (cE m k a) (cE m k (.BoolOp .Or (b :: r) p))
    | .BoolOp _ [a] _ => cE m k a
    | .IfExp t a b _ => .ite (cT m k t) (cE m k a) (cE m k b)
    | .Tuple es _ _ => if es.all (fun e => !isStar e) then .tup (cEs m k es) else .bad
    | .List es p => if es.all (fun e => !isStar e) then .lst (k.cell p) (cEs m k es) else .bad
    | .Attribute o f _ => (match placeS f k.nms with
      | some i => if plainO o then .attr (cE m k o) i else .bad
      | none => .bad)
    | .Subscript a i p => (match i with
      | .Slice none none (some (.UnaryOp .USub (.Constant (.int 1) _ _) _)) _ => .rev (k.cell p) (cE m k a)
      | .Slice l h none _ => .slice (k.cell p) (cE m k a) (cO m k l) (cO m k h)
      | i => if isSlice i then .bad else .sub (cE m k a) (cE m k i))
    | .Call (.Name x _) es [] p => if !(es.all (fun e => !isStar e)) || !plainN x then .bad else
      if k.vis x then (match es, placeS x k.N with
        | _ :: _, some i => .callv i (cEs m k es)
        | _, _ => .bad)
      else if k.glob x then (match k.gl.lookup x with
        | some (.fn i) => .call i (cEs m k es)
        | some (.cls c) => if k.mkc.contains c then .mk c (cEs m k es) else .bad
        | some (.bf id) => (match es with
          | [_, _] => if id = "math.gcd" then .prim false .gcd (cEs m k es) else .bad
          | _ => .bad)
        | some (.val _) => .bad
        | none => if k.free.contains x && !(x == "__name__") then (if x = "isinstance" then (match es with
            | [e, .Tuple ts _ _] => (match optAll (cTy k) ts with
              | some tys => if tys.isEmpty || decide (100 < tys.length) || !(ts.all (fun e => !isStar e)) then .bad else .isin (cE m k e) tys
              | none => .bad)
            | [e, t] => (match cTy k t with
              | some ty => .isin (cE m k e) [ty]
              | none => .bad)
            | _ => .bad) else (match cPr x es.length with
            | some pr => .prim (k.cell p) pr (cEs m k es)
            | none => .bad)) else .bad)
      else .bad
    | .Call (.Attribute o f ap) es [] p => if !(es.all (fun e => !isStar e)) || !plainO o || !(ap.endLine == p.line) || decide (28 ≤ es.length) then .bad else
      (match cBm f es.length with
      | some pr => .bm (k.cell p) pr (cE m k o) (cEs m k es)
      | none => (match placeS f k.nms with
        | some i => .meth i (cE m k o) (cEs m k es)
        | none => .bad))
    | .ListComp elt gs scope p => (match gs with
      | [⟨tg, iter, ifs, 0⟩] =>
      if blkC k.N k.sc scope (ownOf k.N scope) && notSet iter then (match cTg (k.blk' scope) tgN tg, cI m k tg iter with
        | some itg, some it => if tgIn ((ownOf k.N scope).map (·.2)) tgN itg then (match ifs with
          | [] => .comp (k.cell p) ((ownOf k.N scope).map (·.2)) itg it none (cE m (k.blk' scope) elt)
          | [t] => .comp (k.cell p) ((ownOf k.N scope).map (·.2)) itg it (some (cT m (k.blk' scope) t)) (cE m (k.blk' scope) elt)
          | _ => .bad) else .bad
        | _, _ => .bad) else .bad
      | [⟨tg, iter, [], 0⟩, ⟨tg1, iter1, ifs, 0⟩] =>
      if blkC k.N k.sc scope (ownOf k.N scope) && notSet iter && notSet iter1 then (match cTg (k.blk' scope) tgN tg, cI m k tg iter, cTg (k.blk' scope) tgN tg1, cI m (k.blk' scope) tg1 iter1 with
        | some itg, some it, some itg1, some it1 => if tgIn ((ownOf k.N scope).map (·.2)) tgN itg && tgIn (tgV tgN itg1) tgN itg1 && (tgV tgN itg1).all (fun i => ((ownOf k.N scope).map (·.2)).contains i) then (match ifs with
          | [] => .comp2 (k.cell p) ((ownOf k.N scope).map (·.2)) (tgV tgN itg1) itg it itg1 it1 none (cE m (k.blk' scope) elt)
          | [t] => .comp2 (k.cell p) ((ownOf k.N scope).map (·.2)) (tgV tgN itg1) itg it itg1 it1 (some (cT m (k.blk' scope) t)) (cE m (k.blk' scope) elt)
          | _ => .bad) else .bad
        | _, _, _, _ => .bad) else .bad
      | _ => .bad)
    | _ => .bad
def cEs : Nat → Ck → List Expr → List IE
  | 0, _, [] => []
  | 0, _, _ :: _ => [.bad]
  | _ + 1, _, [] => []
  | m + 1, k, e :: es => cE m k e :: cEs m k es
def cO : Nat → Ck → Option Expr → Option IE
  | _, _, none => none
  | 0, _, some _ => some .bad
  | m + 1, k, some e => some (cE m k e)
def cT : Nat → Ck → Expr → IE
  | 0, _, _ => .bad
  | m + 1, k, e => match e with
    | .UnaryOp .Not a _ => .not (cT m k a)
    | .BoolOp .And (a :: b :: r) p => .and (cT m k a) (cT m k (.BoolOp .And (b :: r) p))
    | .BoolOp .Or (a :: b :: r) p => .or (cT m k a) (cT m k (.BoolOp .Or (b :: r) p))
    | .BoolOp _ [a] _ => cT m k a
    | .Compare a [op] [b] _ => if behindInMarks op b then .bad else .cmp (opC? op) (cE m k a) (cE m k b)
    | .BoolOp _ _ _ => .bad
    | .Compare _ _ _ _ => .bad
    | .IfExp _ _ _ _ => .bad
    | e => cE m k e
def cI : Nat → Ck → Expr → Expr → Option (Wk IE)
  | 0, _, _, _ => none
  | m + 1, k, tg, e => match e with
    | .Call (.Name x _) es [] _ => if k.glob x && (k.gl.lookup x).isNone && k.free.contains x && es.all (fun e => !isStar e) then
        (if x = "range" then (match es with
          | [a] => some (.range [cE m k a])
          | [a, b] => some (.range [cE m k a, cE m k b])
          | [a, b, c] => some (.range [cE m k a, cE m k b, cE m k c])
          | _ => none)
        else if x = "zip" then (match es, tg with
          | [a, b], .Tuple _ _ _ => some (.zip (cE m k a) (cE m k b))
          | _, _ => none)
        else if x = "enumerate" then (match es, tg with
          | [a], .Tuple _ _ _ => some (.enum (cE m k a))
          | _, _ => none)
        else some (.seq (cE m k e))) else some (.seq (cE m k e))
    | e => some (.seq (cE m k e))
end
end Sd

set_option Elab.async false
set_option linter.all false
set_option maxRecDepth 100000
set_option maxHeartbeats 4000000
/-! Sd23: the IR of an expression is read as the expression is. -/
namespace Sd
open PySem PySem.Spec PyProof.Rows L2 Pi
structure AllE (G : Geo) (cl : Cll) (lv m : Nat) (k : Ck) (X : Cx) (W : WX) : Prop where
  e : ∀ lo n e, PE X e (tD G cl lo n (cE m k e) W)
  es : ∀ lo n es, es.all (fun e => !isStar e) = true → PA X es (tDs G cl lo n (cEs m k es) W)
  o : ∀ lo n (e : Option Expr), (e = none ∧ cO m k e = none) ∨ ∃ e' o', e = some e' ∧ cO m k e = some o' ∧ PE X e' (tD G cl lo n o' W)
  t : ∀ lo n e, PT X e (tDt G cl lo n (cT m k e) W)
  w : ∀ lo n op es p, PW X (.BoolOp op es p) (tDt G cl lo n (cT m k (.BoolOp op es p)) W)
  i : ∀ lo n tg e wi, cI m k tg e = some wi → PI X tg e (tDi G cl lo n wi W)
section
variable {G : Geo} {cl : Cll} {lo n m lv : Nat} {W : WX} {X : Cx} {k : Ck}
theorem pa_zero {es : List Expr} {ie : IE} : PA X es (tDs G cl lo n [.bad] W) := ⟨fun pos pins s σ H Q I ⟨F, ca, μ, env, hh, q⟩ => by
  cases n <;> exact q.elim⟩
theorem pw_zero {e : Expr} : PW X e (tDt G cl lo n .bad W) := ⟨fun whole pins s σ H Q I ⟨F, ca, μ, env, hh, q⟩ => by
  cases n <;> exact q.elim⟩
theorem pw_fuel {e : Expr} {ie : IE} : PW X e (tDt G cl lo 0 ie W) := ⟨fun whole pins s σ H Q I ⟨F, ca, μ, env, hh, q⟩ => q.elim⟩
theorem all_zero (o : CkOk k X G cl lv W) : AllE G cl lv 0 k X W where
  e := fun lo n e => pe_badD
  es := fun lo n es h => by
    cases es with
    | nil => exact pa_nilD
    | cons _ _ => exact pa_zero (ie := .bad)
  o := fun lo n e => by
    cases e with
    | none => exact .inl ⟨rfl, by simp [cO]⟩
    | some e => exact .inr ⟨e, .bad, rfl, rfl, pe_badD⟩
  t := fun lo n e => pt_badD
  w := fun lo n op es p => pw_zero
  i := fun lo n tg e wi h => by cases h
theorem cmp_bl {op : COp} : ∀ x y m d m', cmpD G.T cl op x y m = .ok d m' → ∃ k, d = .bl k := by
  intro x y m d m' h
  unfold cmpD at h
  cases op <;> simp only at h
  all_goals
    repeat' split at h
    all_goals first | (cases h; exact ⟨_, rfl⟩) | cases h
theorem all_t (o : CkOk k X G cl lv W) (ih : AllE G cl lv m k X W) (lo n : Nat) (e : Expr) (hw : ∀ op es p, PW X (.BoolOp op es p) (tDt G cl lo n (cT (m + 1) k (.BoolOp op es p)) W)) : PT X e (tDt G cl lo n (cT (m + 1) k e) W) := by
  cases n with
  | zero => exact pt_zero
  | succ n =>
    cases e with
    | UnaryOp op a p =>
      cases op with
      | Not => exact pt_notD (ih.t lo n a)
      | _ => exact pt_truD o.wd.hK (ih.e lo _ _) (isTrue_plain rfl)
    | BoolOp op es p => exact (hw op es p).pt
    | Compare a ops bs p =>
      match ops, bs with
      | [op], [b] =>
        simp only [cT]
        split
        · exact pt_badD
        · rename_i h
          exact pt_cmpD (ih.e lo n a) (ih.e lo n b) (by rw [← opC?_eq op]; rw [opC?_eq op]; have := c_all (lo := lo) o.wd (opC? op); rw [opC?_eq op] at this; exact this) (by simpa using h) cmp_bl
      | [], [] => exact pt_badD
      | [], _ :: _ => exact pt_badD
      | [_], [] => exact pt_badD
      | _ :: _ :: _, _ => exact pt_badD
      | [_], _ :: _ :: _ => exact pt_badD
    | IfExp _ _ _ _ => exact pt_badD
    | _ => exact pt_truD o.wd.hK (ih.e lo _ _) (isTrue_plain rfl)
theorem all_w (o : CkOk k X G cl lv W) (ih : AllE G cl lv m k X W) (lo n : Nat) (op : BoolOp) (es : List Expr) (p : Pos) : PW X (.BoolOp op es p) (tDt G cl lo n (cT (m + 1) k (.BoolOp op es p)) W) := by
  cases n with
  | zero => exact pw_fuel
  | succ n =>
    match op, es with
    | .And, [] => exact pw_zero
    | .Or, [] => exact pw_zero
    | .And, [a] => exact pw_and1 (ih.t lo (n + 1) a)
    | .Or, [a] => exact pw_or1 (ih.t lo (n + 1) a)
    | .And, a :: b :: r => exact pw_andD (ih.t lo n a) (ih.w lo n .And (b :: r) p)
    | .Or, a :: b :: r => exact pw_orD (ih.t lo n a) (ih.w lo n .Or (b :: r) p)
theorem all_es (ih : AllE G cl lv m k X W) (lo n : Nat) (es : List Expr) (h : es.all (fun e => !isStar e) = true) : PA X es (tDs G cl lo n (cEs (m + 1) k es) W) := by
  cases es with
  | nil => exact pa_nilD
  | cons e es =>
    rw [List.all_cons, Bool.and_eq_true] at h
    exact pa_consD (ih.e lo n e) (ih.es lo n es h.2) (star_cons (by simpa using h.1))
theorem all_o (ih : AllE G cl lv m k X W) (lo n : Nat) (e : Option Expr) : (e = none ∧ cO (m + 1) k e = none) ∨ ∃ e' o', e = some e' ∧ cO (m + 1) k e = some o' ∧ PE X e' (tD G cl lo n o' W) := by
  cases e with
  | none => exact .inl ⟨rfl, rfl⟩
  | some e => exact .inr ⟨e, _, rfl, rfl, ih.e lo n e⟩
theorem CkOk.freeG (o : CkOk k X G cl lv W) {x : Str} (h1 : k.glob x = true) (h3 : k.free.contains x = true) : Gl X x ∧ X.mg x = none := ⟨o.glob h1, o.free x h3⟩
theorem star2 {e e2 : Expr} {es : List Expr} {env : PySem.Env} (h : (e :: e2 :: es).all (fun e => !isStar e) = true) : starEach (e :: e2 :: es) env = (false, eval e env) :: starEach (e2 :: es) env ∧ starEach (e2 :: es) env = (false, eval e2 env) :: starEach es env := by
  simp only [List.all_cons, Bool.and_eq_true] at h
  exact ⟨star_cons (by simpa using h.1), star_cons (by simpa using h.2.1)⟩
theorem all_i (o : CkOk k X G cl lv W) (ih : AllE G cl lv m k X W) (lo n : Nat) (tg e : Expr) (wi : Wk IE) (h : cI (m + 1) k tg e = some wi) : PI X tg e (tDi G cl lo n wi W) := by
  have seq : some (Wk.seq (cE m k e)) = some wi → PI X tg e (tDi G cl lo n wi W) := fun h => by
    cases h
    exact pi_seqD o.wd.hK (ih.e lo n e)
  unfold cI at h
  split at h
  · rename_i x p es pos
    split at h
    · rename_i hc
      simp only [Bool.and_eq_true] at hc
      obtain ⟨⟨⟨h1, h2⟩, h3⟩, h4⟩ := hc
      obtain ⟨hg, hm⟩ := o.freeG h1 h3
      split at h
      · rename_i hx
        subst hx
        split at h
        · cases h
          exact pi_r1D hg hm (pa_consD (ih.e lo n _) pa_nilD (star_cons (by simpa using h4))) (by rw [star_cons (by simpa using h4)]; rfl)
        · cases h
          obtain ⟨s1, s2⟩ := star2 (env := X.env) h4
          exact pi_r2D hg hm (pa_consD (ih.e lo n _) (pa_consD (ih.e lo n _) pa_nilD s2) s1) (by rw [s1, s2]; rfl) (by rw [s2]; rfl)
        · cases h
          obtain ⟨s1, s2⟩ := star2 (env := X.env) h4
          have h5 := h4
          rw [List.all_cons, Bool.and_eq_true] at h5
          obtain ⟨_, s3⟩ := star2 (env := X.env) h5.2
          exact pi_r3D hg hm (pa_consD (ih.e lo n _) (pa_consD (ih.e lo n _) (pa_consD (ih.e lo n _) pa_nilD s3) s2) s1) s1 (star_any h5.2)
        · cases h
      · split at h
        · rename_i hx
          subst hx
          split at h
          · cases h
            obtain ⟨s1, s2⟩ := star2 (env := X.env) h4
            exact pi_zipD o.wd.hK hg hm (ih.e lo n _) (ih.e lo n _) s1 s2
          · cases h
        · split at h
          · rename_i hx
            subst hx
            split at h
            · cases h
              exact pi_enumD o.wd.hK hg hm (ih.e lo n _) (by rw [star_cons (by simpa using h4)]; rfl)
            · cases h
          · exact seq h
    · exact seq h
  · exact seq h
end
end Sd

set_option Elab.async false
set_option linter.all false
set_option maxRecDepth 100000
set_option maxHeartbeats 4000000
/-! Sd24: soundness of the compiler of expressions. -/
namespace Sd
open PySem PySem.Spec PyProof.Rows L2 Pi
section
variable {G : Geo} {cl : Cll} {lo n m lv : Nat} {W : WX} {X : Cx} {k : Ck}
theorem cTy_ok (o : CkOk k X G cl lv W) {e : Expr} {t : Ty} (h : cTy k e = some t) : PE X e (tC (tyR G t)) ∧ (∀ c, t = .own c → ∃ x, k.gl.lookup x = some (.cls c)) := by
  cases e <;> first | (cases h; done) | skip
  rename_i x p
  simp only [cTy] at h
  split at h
  · rename_i hc
    simp only [Bool.and_eq_true, plainN, Bool.not_eq_true'] at hc
    obtain ⟨h1, h2, h3⟩ := hc
    split at h
    · rename_i c hl
      cases h
      refine ⟨⟨fun pins s σ H Q I q => ?_⟩, fun c' e => ⟨x, by cases e; exact hl⟩⟩
      have hm := o.gl x _ hl
      exact ld_glob I (o.glob h1) hm ⟨.ref (G.cad c), H, I, rfl, q⟩ h2
    · cases h
    · split at h
      · rename_i h4
        obtain ⟨hg, hm⟩ := o.freeG h1 h4
        have go : ∀ (T : String) (t : Ty), tyR G t = .ty T → (∀ c, t ≠ .own c) → bootBuiltins x = some (.type T) → x ≠ "__name__" → PE X (.Name x p) (tC (tyR G t)) ∧ (∀ c, t = .own c → ∃ x, k.gl.lookup x = some (.cls c)) := fun T t e1 e2 e3 e4 =>
          ⟨by rw [e1]; exact pe_bltn hg hm e3 rfl e4 h2, fun c e => absurd e (e2 c)⟩
        split at h
        · rename_i e; subst e; cases h; exact go "int" .int rfl (fun _ z => nomatch z) (by first | rfl | decide +kernel) (by decide)
        · split at h
          · rename_i e; subst e; cases h; exact go "bool" .bool rfl (fun _ z => nomatch z) (by first | rfl | decide +kernel) (by decide)
          · split at h
            · rename_i e; subst e; cases h; exact go "str" .str rfl (fun _ z => nomatch z) (by first | rfl | decide +kernel) (by decide)
            · split at h
              · rename_i e; subst e; cases h; exact go "list" .list rfl (fun _ z => nomatch z) (by first | rfl | decide +kernel) (by decide)
              · split at h
                · rename_i e; subst e; cases h; exact go "tuple" .tuple rfl (fun _ z => nomatch z) (by first | rfl | decide +kernel) (by decide)
                · split at h
                  · rename_i e; subst e; cases h; exact go "dict" .dict rfl (fun _ z => nomatch z) (by first | rfl | decide +kernel) (by decide)
                  · cases h
      · cases h
  · cases h
theorem cTys_ok (o : CkOk k X G cl lv W) : ∀ {ts : List Expr} {tys : List Ty}, optAll (cTy k) ts = some tys → ts.all (fun e => !isStar e) = true → PA X ts (fun _ H Q => Q (tys.map (tyR G)) H)
  | [], tys, h, _ => by
    cases h
    exact pa_nil
  | t :: ts, tys, h, hs => by
    simp only [optAll] at h
    rw [List.all_cons, Bool.and_eq_true] at hs
    split at h
    · rename_i y ys h1 h2
      cases h
      exact pa_cons (cTy_ok o h1).1 (cTys_ok o h2 hs.2) (star_cons (by simpa using hs.1))
    · cases h
theorem prims (o : CkOk k X G cl lv W) {x : Str} {es : List Expr} {pr : Pr} {c : Bool} {p pos : Pos} (h : cPr x es.length = some pr) (hg : Gl X x) (hm : X.mg x = none) (ha : PA X es (tDs G cl lo n (cEs m k es) W)) (hs : es.all (fun e => !isStar e) = true) (hd : (x == ("__debug__" : Str)) = false) :
    PE X (.Call (.Name x p) es [] pos) (tD G cl lo (n + 1) (.prim c pr (cEs m k es)) W) := by
  cases es with
  | nil =>
    exfalso
    simp [cPr] at h
  | cons e es =>
    have s1 : starEach (e :: es) X.env = (false, eval e X.env) :: starEach es X.env := star_cons (by simp only [List.all_cons, Bool.and_eq_true] at hs; simpa using hs.1)
    have s2 : (backTo pos (starEach es X.env)).any (·.1) = false := star_any (by simp only [List.all_cons, Bool.and_eq_true] at hs; exact hs.2)
    have hK := o.wd.hK
    have hc := o.cm
    unfold cPr at h
    split at h
    · rename_i e; obtain ⟨rfl, _⟩ := e; cases h; exact pe_callBG (ca_len o.wd) hg hm (by first | rfl | decide +kernel) (by decide) hd ha s1 s2 (fun env μ => rfl)
    split at h
    · rename_i e; obtain ⟨rfl, _⟩ := e; cases h; exact pe_callTyG (ca_list hK) hg hm (by first | rfl | decide +kernel) (by decide) hd ha s1 s2 (fun env μ => rfl)
    split at h
    · rename_i e; obtain ⟨rfl, _⟩ := e; cases h; exact pe_callTyG (ca_tuple hK) hg hm (by first | rfl | decide +kernel) (by decide) hd ha s1 s2 (fun env μ => rfl)
    split at h
    · rename_i e; obtain ⟨rfl, _⟩ := e; cases h; exact pe_callBG (ca_sum hK hc) hg hm (by first | rfl | decide +kernel) (by decide) hd ha s1 s2 (fun env μ => rfl)
    split at h
    · rename_i e; obtain ⟨rfl, _⟩ := e; cases h; exact pe_callBG (ca_all hK hc) hg hm (by first | rfl | decide +kernel) (by decide) hd ha s1 s2 (fun env μ => rfl)
    split at h
    · rename_i e; obtain ⟨rfl, _⟩ := e; cases h; exact pe_callBG (ca_any hK hc) hg hm (by first | rfl | decide +kernel) (by decide) hd ha s1 s2 (fun env μ => rfl)
    split at h
    · rename_i e; obtain ⟨rfl, _⟩ := e; cases h; exact pe_callBG (ca_max hc) hg hm (by first | rfl | decide +kernel) (by decide) hd ha s1 s2 (fun env μ => rfl)
    split at h
    · rename_i e; obtain ⟨rfl, _⟩ := e; cases h; exact pe_callBG (ca_min hc) hg hm (by first | rfl | decide +kernel) (by decide) hd ha s1 s2 (fun env μ => rfl)
    split at h
    · rename_i e; obtain ⟨rfl, _⟩ := e; cases h; exact pe_callBG ca_abs hg hm (by first | rfl | decide +kernel) (by decide) hd ha s1 s2 (fun env μ => rfl)
    split at h
    · rename_i e; obtain ⟨rfl, _⟩ := e; cases h; exact pe_callTyG ca_int hg hm (by first | rfl | decide +kernel) (by decide) hd ha s1 s2 (fun env μ => rfl)
    split at h
    · rename_i e; obtain ⟨rfl, _⟩ := e; cases h; exact pe_callBG (ca_sorted hK) hg hm (by first | rfl | decide +kernel) (by decide) hd ha s1 s2 (fun env μ => rfl)
    cases h
end
end Sd

set_option Elab.async false
set_option linter.all false
set_option maxRecDepth 100000
set_option maxHeartbeats 4000000
/-! Sd25: soundness of the compiler of expressions, whole. -/
namespace Sd
open PySem PySem.Spec PyProof.Rows L2 Pi
section
variable {G : Geo} {cl : Cll} {lo n m lv : Nat} {W : WX} {X : Cx} {k : Ck}
theorem cTy_in (o : CkOk k X G cl lv W) {e : Expr} {t : Ty} (h : cTy k e = some t) : tyIn G.T t = true := by
  obtain ⟨_, h2⟩ := cTy_ok o h
  cases t with
  | own c =>
    obtain ⟨x, hx⟩ := h2 c rfl
    simp only [tyIn, decide_eq_true_eq]
    exact o.gc x c hx
  | _ => rfl
theorem cTys_in (o : CkOk k X G cl lv W) : ∀ {ts : List Expr} {tys : List Ty}, optAll (cTy k) ts = some tys → tys.all (tyIn G.T) = true
  | [], tys, h => by cases h; rfl
  | t :: ts, tys, h => by
    simp only [optAll] at h
    split at h
    · rename_i y ys h1 h2
      cases h
      rw [List.all_cons, cTy_in o h1, cTys_in o h2]
      rfl
    · cases h
theorem all_call (o : CkOk k X G cl lv W) (ih : AllE G cl lv m k X W) {x : Str} {es : List Expr} {q p : Pos} : PE X (.Call (.Name x q) es [] p) (tD G cl lo (n + 1) (cE (m + 1) k (.Call (.Name x q) es [] p)) W) := by
  simp only [cE]
  split
  · exact pe_badD
  · rename_i h0
    simp only [Bool.or_eq_true, Bool.not_eq_true', not_or, Bool.not_eq_false] at h0
    obtain ⟨hs, hpl⟩ := h0
    have hp := hpl
    simp only [plainN, Bool.and_eq_true, Bool.not_eq_true'] at hp
    have cons : ∀ {e : Expr} {r : List Expr}, es = e :: r → starEach (e :: r) X.env = (false, eval e X.env) :: starEach r X.env ∧ (backTo p (starEach r X.env)).any (·.1) = false := fun {e r} h => by
      subst h
      simp only [List.all_cons, Bool.and_eq_true] at hs
      exact ⟨star_cons (by simpa using hs.1), star_any hs.2⟩
    split
    · rename_i hv
      split
      · rename_i e r i hi
        obtain ⟨s1, s2⟩ := cons rfl
        exact pe_callvD o.wd (by rw [o.N]; exact placeS_get hi) (o.vis hv) hp.1 hp.2 (ih.es lo n _ hs) s1 s2
      · exact pe_badD
    · split
      · rename_i hg
        split
        · rename_i i hl
          obtain ⟨Fn, hF⟩ := o.gf x i hl
          obtain ⟨fd, ps, _, kp, _⟩ := o.wd.hF.ok i Fn hF
          cases es with
          | nil =>
            refine pe_callG0 (o.glob hg) (o.gl x _ hl) kp (fn_run (lo := lo) o.wd.hF o.wd.room0 o.wd.hx i) hp.1 (fun env μ => ?_)
            cases m with
            | zero => rfl
            | succ m => rfl
          | cons e r =>
            obtain ⟨s1, s2⟩ := cons rfl
            exact pe_callG (o.glob hg) (o.gl x _ hl) kp (fn_run (lo := lo) o.wd.hF o.wd.room0 o.wd.hx i) (ih.es lo n _ hs) s1 s2 hp.1 (fun env μ => rfl)
        · rename_i c hl
          split
          · rename_i hmk
            obtain ⟨C, hC, hex⟩ := o.mkc c hmk
            have ok := o.wd.hk c C hC hex
            cases es with
            | nil =>
              refine pe_callG0 (o.glob hg) (o.gl x _ hl) ok.mkr.kp (make_run (lo := lo) o.wd.hK o.wd.hF (o.wd.rm.mono (by omega)) o.wd.hx hC ok.mkr) hp.1 (fun env μ => ?_)
              cases m with
              | zero => rfl
              | succ m => rfl
            | cons e r =>
              obtain ⟨s1, s2⟩ := cons rfl
              exact pe_callG (o.glob hg) (o.gl x _ hl) ok.mkr.kp (make_run (lo := lo) o.wd.hK o.wd.hF (o.wd.rm.mono (by omega)) o.wd.hx hC ok.mkr) (ih.es lo n _ hs) s1 s2 hp.1 (fun env μ => rfl)
          · exact pe_badD
        · rename_i id hl
          split
          · rename_i a b
            split
            · rename_i hid
              subst hid
              obtain ⟨s1, s2⟩ := cons rfl
              exact pe_callBfG ca_gcd (o.glob hg) (o.gl x _ hl) hp.1 (ih.es lo n _ hs) s1 s2 (fun env μ => rfl)
            · exact pe_badD
          · exact pe_badD
        · exact pe_badD
        · split
          · rename_i hf
            simp only [Bool.and_eq_true, Bool.not_eq_true'] at hf
            obtain ⟨gg, hm⟩ := o.freeG hg hf.1
            split
            · rename_i hx
              subst hx
              split
              · rename_i e ts kk tp
                split
                · rename_i tys ht
                  split
                  · exact pe_badD
                  · rename_i h5
                    simp only [Bool.or_eq_true, Bool.not_eq_true', not_or, Bool.not_eq_false, decide_eq_true_eq] at h5
                    obtain ⟨⟨h6, h7⟩, h8⟩ := h5
                    obtain ⟨s1, s2⟩ := star2 (env := X.env) hs
                    exact pe_isiTD o.wd o.is (cTys_in o ht) (by omega) (by simpa using h6) gg hm (ih.e lo n e) (cTys_ok o ht h8) s1 s2 rfl
                · exact pe_badD
              · rename_i e t _
                split
                · rename_i ty ht
                  obtain ⟨s1, s2⟩ := star2 (env := X.env) hs
                  exact pe_isiD o.wd o.is (cTy_in o ht) gg hm (ih.e lo n e) (cTy_ok o ht).1 s1 s2 rfl
                · exact pe_badD
              · exact pe_badD
            · split
              · rename_i pr hpr
                exact prims o hpr gg hm (ih.es lo n _ hs) hs hp.1
              · exact pe_badD
          · exact pe_badD
      · exact pe_badD
end
end Sd

set_option Elab.async false
set_option linter.all false
set_option maxRecDepth 100000
set_option maxHeartbeats 4000000
/-! Sd26: soundness of the compiler of expressions, whole. -/
namespace Sd
open PySem PySem.Spec PyProof.Rows L2 Pi
section
variable {G : Geo} {cl : Cll} {lo n m lv : Nat} {W : WX} {X : Cx} {k : Ck}
theorem all_meth (o : CkOk k X G cl lv W) (ih : AllE G cl lv m k X W) {oe : Expr} {f : Str} {es : List Expr} {q p : Pos} : PE X (.Call (.Attribute oe f q) es [] p) (tD G cl lo (n + 1) (cE (m + 1) k (.Call (.Attribute oe f q) es [] p)) W) := by
  simp only [cE]
  split
  · exact pe_badD
  · rename_i h0
    simp only [Bool.or_eq_true, Bool.not_eq_true', not_or, Bool.not_eq_false, decide_eq_true_eq] at h0
    obtain ⟨⟨⟨hs, hb⟩, hl⟩, hn⟩ := h0
    have cons : ∀ {e : Expr} {r : List Expr}, es = e :: r → starEach (e :: r) X.env = (false, eval e X.env) :: starEach r X.env ∧ (backTo p (starEach r X.env)).any (·.1) = false := fun {e r} h => by
      subst h
      simp only [List.all_cons, Bool.and_eq_true] at hs
      exact ⟨star_cons (by simpa using hs.1), star_any hs.2⟩
    split
    · rename_i pr hpr
      have go1 : ∀ {id : String} {pr : Pr} {c : Bool}, Slot "list" f id → typeOf (.builtin id) = pure (.type "method_descriptor") → Mt X G lo W id (prD G.T cl lo c pr) → es ≠ [] → PE X (.Call (.Attribute oe f q) es [] p) (tD G cl lo (n + 1) (.bm c pr (cE m k oe) (cEs m k es)) W) := fun {id pr c} sl ty mt hne => by
        cases es with
        | nil => exact absurd rfl hne
        | cons e r =>
          obtain ⟨s1, s2⟩ := cons rfl
          exact pe_bmD o.wd.hK PySem.F.plainAttrs_list sl ty mt (ih.e lo n oe) (ih.es lo n _ hs) hb s1 s2 hl (by simp only [List.length_cons] at hn; omega)
      unfold cBm at hpr
      split at hpr
      · rename_i e; obtain ⟨rfl, e2⟩ := e; cases hpr
        exact go1 PySem.F.slot_list_append (by first | rfl | exact PySem.F.type_list_append) mtd_append (fun z => by rw [z] at e2; cases e2)
      split at hpr
      · rename_i e; obtain ⟨rfl, e2⟩ := e; cases hpr
        exact go1 PySem.F.slot_list_extend (by first | rfl | exact PySem.F.type_list_extend) mtd_extend (fun z => by rw [z] at e2; cases e2)
      split at hpr
      · rename_i e; obtain ⟨rfl, e2⟩ := e; cases hpr
        cases es with
        | cons _ _ => cases e2
        | nil =>
          have : cEs m k [] = [] := by cases m <;> rfl
          rw [this]
          exact pe_bm0D o.wd.hK PySem.F.plainAttrs_list PySem.F.slot_list_pop (by first | rfl | exact PySem.F.type_list_pop) mtd_pop (ih.e lo n oe) hb hl
      split at hpr
      · rename_i e; obtain ⟨rfl, e2⟩ := e; cases hpr
        exact go1 PySem.F.slot_list_pop (by first | rfl | exact PySem.F.type_list_pop) mtd_popAt (fun z => by rw [z] at e2; cases e2)
      cases hpr
    · split
      · rename_i i hi
        have e := o.nms f i hi
        subst e
        refine pe_methD o.wd.hK o.wd.hF o.wd.room0 o.wd.hx o.wd.hk (ih.e lo n oe) (ih.es lo n _ hs) hb hl (by omega) ?_
        cases es with
        | nil => exact .inl ⟨rfl, by cases m <;> rfl⟩
        | cons e r =>
          obtain ⟨s1, s2⟩ := cons rfl
          exact .inr ⟨e, r, rfl, s1, s2⟩
      · exact pe_badD
theorem cTg_ok (o : CkOk k X G cl lv W) : ∀ (n : Nat) (e : Expr) (tg : Tg), cTg k n e = some tg → PG X e (gDD G n tg) := by
  have name : ∀ (n : Nat) (x : Str) (p : Pos) (tg : Tg), (if (decide (k.kind x = some .local) || (decide (k.kind x = some .cell) && k.fnok x)) then (placeS x k.N).map Tg.name else none) = some tg → PG X (.Name x p) (gDD G n tg) := fun n x p tg h => by
    split at h
    · rename_i hc
      simp only [Option.map_eq_some_iff] at h
      obtain ⟨i, h1, rfl⟩ := h
      have hl : L2.Loc X.env.scope x ∧ (X.fn x = true ∨ X.env.scope.names.lookup x = some .local) := by
        unfold L2.Loc
        rw [o.sc]
        rcases Bool.or_eq_true_iff.mp hc with h | h
        · have := of_decide_eq_true h
          exact ⟨.inl this, .inr this⟩
        · rw [Bool.and_eq_true] at h
          exact ⟨.inr (of_decide_eq_true h.1), .inl (o.fn x h.2)⟩
      exact pg_nameD (by rw [o.N]; exact o.nd) (by rw [o.N]; exact placeS_get h1) hl.1 hl.2
    · cases h
  intro n
  induction n with
  | zero =>
    intro e tg h
    cases e <;> first | (cases h; done) | skip
    exact name 0 _ _ tg h
  | succ n ih =>
    intro e tg h
    cases e <;> first | (cases h; done) | skip
    · exact name (n + 1) _ _ tg h
    · rename_i es kk p
      simp only [cTg] at h
      split at h
      · rename_i hs
        simp only [Option.map_eq_some_iff] at h
        obtain ⟨ts, h1, rfl⟩ := h
        have go : ∀ (es : List Expr) (ts : List Tg), optAll (cTg k n) es = some ts → es.all (fun e => !isStar e) = true → PGs X es (gDs G n ts) ∧ (assignEach es X.env).length = ts.length ∧ (assignEach es X.env).findIdx? (·.1) = none := fun es => by
          induction es with
          | nil =>
            intro ts h _
            cases h
            exact ⟨pgs_nilD, rfl, rfl⟩
          | cons e es ihs =>
            intro ts h hs
            simp only [optAll] at h
            simp only [List.all_cons, Bool.and_eq_true] at hs
            split at h
            · rename_i y ys h1 h2
              cases h
              obtain ⟨a, b, c⟩ := ihs ys h2 hs.2
              have hst : isStar e = false := by simpa using hs.1
              refine ⟨pgs_consD (ih e y h1) a (by rw [assign_cons hst]; rfl), by rw [assign_cons hst]; simp [b], ?_⟩
              rw [assign_cons hst, List.findIdx?_cons]
              simp [c]
            · cases h
        obtain ⟨a, b, c⟩ := go es ts h1 hs
        exact pg_tupD o.wd.hK o.cm a b c
      · cases h
theorem blk_kind {scope : Scope} {N : List Str} {sc : Scope} {own : List (Str × Nat)} (h : blkC N sc scope own = true) : scope.kind = .function := (blkOk_by h).kind
theorem all_comp (o : CkOk k X G cl lv W) (ih : ∀ k X W, CkOk k X G cl lv W → AllE G cl lv m k X W) {elt tg iter : Expr} {ifs : List Expr} {scope : Scope} {p : Pos} : PE X (.ListComp elt [⟨tg, iter, ifs, 0⟩] scope p) (tD G cl lo (n + 1) (cE (m + 1) k (.ListComp elt [⟨tg, iter, ifs, 0⟩] scope p)) W) := by
  simp only [cE]
  split
  · rename_i hb
    rw [Bool.and_eq_true] at hb
    have ok : BlkOk X.N X.env.scope scope (ownOf k.N scope) := by rw [o.N, o.sc]; exact blkOk_by hb.1
    have ob := fun s H C cs fp => o.block (blk_kind hb.1) s H C cs fp
    split
    · rename_i itg it h1 h2
      split
      · rename_i hin
        split
        · exact pe_lcD o.cm (by rw [o.N]; exact o.nd) hin ((ih k X W o).i lo n tg iter it h2) ok (fun s H C cs fp => cTg_ok (ob s H C cs fp) tgN tg itg h1) (fun s H C cs fp => pts_nil) (fun s H C cs fp => (ih _ _ _ (ob s H C cs fp)).e lo n elt) (fsi_ok hb.2)
        · rename_i t
          exact pe_lcD o.cm (by rw [o.N]; exact o.nd) hin ((ih k X W o).i lo n tg iter it h2) ok (fun s H C cs fp => cTg_ok (ob s H C cs fp) tgN tg itg h1) (fun s H C cs fp => pts_one ((ih _ _ _ (ob s H C cs fp)).t lo n t)) (fun s H C cs fp => (ih _ _ _ (ob s H C cs fp)).e lo n elt) (fsi_ok hb.2)
        · exact pe_badD
      · exact pe_badD
    · exact pe_badD
  · exact pe_badD
theorem all_comp2 (o : CkOk k X G cl lv W) (ih : ∀ k X W, CkOk k X G cl lv W → AllE G cl lv m k X W) {elt tg iter tg1 iter1 : Expr} {ifs : List Expr} {scope : Scope} {p : Pos} : PE X (.ListComp elt [⟨tg, iter, [], 0⟩, ⟨tg1, iter1, ifs, 0⟩] scope p) (tD G cl lo (n + 1) (cE (m + 1) k (.ListComp elt [⟨tg, iter, [], 0⟩, ⟨tg1, iter1, ifs, 0⟩] scope p)) W) := by
  simp only [cE]
  split
  · rename_i hb
    simp only [Bool.and_eq_true] at hb
    have ok : BlkOk X.N X.env.scope scope (ownOf k.N scope) := by rw [o.N, o.sc]; exact blkOk_by hb.1.1
    have ob := fun s H C cs fp => o.block (blk_kind hb.1.1) s H C cs fp
    split
    · rename_i itg it itg1 it1 h1 h2 h3 h4
      split
      · rename_i hin
        simp only [Bool.and_eq_true] at hin
        have hv : ∀ i ∈ tgV tgN itg1, i ∈ (ownOf k.N scope).map (·.2) := fun i hi => by
          have := List.all_eq_true.mp hin.2 i hi
          simpa using this
        split
        · exact pe_lc2D o.cm (by rw [o.N]; exact o.nd) hin.1.1 hin.1.2 hv ((ih k X W o).i lo n tg iter it h2) ok (fun s H C cs fp => cTg_ok (ob s H C cs fp) tgN tg itg h1) (fun s H C cs fp => (ih _ _ _ (ob s H C cs fp)).i lo n tg1 iter1 it1 h4) (fun s H C cs fp => cTg_ok (ob s H C cs fp) tgN tg1 itg1 h3) (fun s H C cs fp => pts_nil) (fun s H C cs fp => (ih _ _ _ (ob s H C cs fp)).e lo n elt) (fsi_ok hb.1.2) (fun env => fsi_ok hb.2)
        · rename_i t
          exact pe_lc2D o.cm (by rw [o.N]; exact o.nd) hin.1.1 hin.1.2 hv ((ih k X W o).i lo n tg iter it h2) ok (fun s H C cs fp => cTg_ok (ob s H C cs fp) tgN tg itg h1) (fun s H C cs fp => (ih _ _ _ (ob s H C cs fp)).i lo n tg1 iter1 it1 h4) (fun s H C cs fp => cTg_ok (ob s H C cs fp) tgN tg1 itg1 h3) (fun s H C cs fp => pts_one ((ih _ _ _ (ob s H C cs fp)).t lo n t)) (fun s H C cs fp => (ih _ _ _ (ob s H C cs fp)).e lo n elt) (fsi_ok hb.1.2) (fun env => fsi_ok hb.2)
        · exact pe_badD
      · exact pe_badD
    · exact pe_badD
  · exact pe_badD
end
end Sd

set_option Elab.async false
set_option linter.all false
set_option maxRecDepth 100000
set_option maxHeartbeats 4000000
/-! Sd27: every expression. -/
namespace Sd
open PySem PySem.Spec PyProof.Rows L2 Pi
section
variable {G : Geo} {cl : Cll} {lo n m lv : Nat} {W : WX} {X : Cx} {k : Ck} {c : Bool}
theorem pe_revD (hK : X.K = G.K) {e : Expr} {ie : IE} {j : Nat} {p1 p2 p3 pos : Pos} (he : PE X e (tD G cl lo n ie W)) : PE X (.Subscript e (.Slice none none (some (.UnaryOp .USub (.Constant (.int 1) j p1) p2)) p3) pos) (tD G cl lo (n + 1) (.rev c ie) W) :=
  PE.imp (pe_revL he) fun σ H Q ⟨F, ca, μ, env, hh, q⟩ => by
    simp only [evE] at q
    refine ⟨F, ca, μ, env, hh, (Pk.bind (R := Rp G) q).imp fun v H1 ⟨F1, ca1, μ1, d, x1, g1, r, q1⟩ => ?_⟩
    unfold revD at q1
    split at q1
    · rename_i xs e1
      obtain ⟨a, vs, rfl, h1, r1⟩ := list_at g1 r e1
      exact ⟨a, vs, rfl, .inl (.inl h1), (newL_ok g1 (hh.step x1 g1).hl r1.reverse q1).2⟩
    · exact q1.elim
theorem plainIx_of {i : Expr} (h : isSlice i = false) : PlainIx i := fun o v => by
  cases i <;> first | rfl | cases h
theorem all_e (o : CkOk k X G cl lv W) (ih : ∀ k X W, CkOk k X G cl lv W → AllE G cl lv m k X W) (lo n : Nat) (e : Expr) : PE X e (tD G cl lo n (cE (m + 1) k e) W) := by
  have I := ih k X W o
  have hK := o.wd.hK
  cases n with
  | zero => exact pe_zero
  | succ n =>
    have cmpO : ∀ op, Op2 X G lo W (compareOp op) (cmpD G.T cl (opC? op)) := fun op => by
      have := c_all (lo := lo) o.wd (opC? op)
      rw [opC?_eq] at this
      exact this
    cases e with
    | Name x p => exact cName_ok o
    | Constant c j p => exact cConst_ok
    | BinOp a op b p =>
      simp only [cE]
      split
      · rename_i bop h
        have := b_all (lo := lo) o.wd (k.cell p) bop
        rw [opB?_eq h] at this
        exact pe_binD (I.e lo n a) (I.e lo n b) this
      · exact pe_badD
    | UnaryOp op a p =>
      cases op with
      | USub => exact pe_negD o.wd (I.e lo n a)
      | Not => exact pe_notD hK (I.e lo n a)
      | _ => exact pe_badD
    | Compare a ops bs p =>
      match ops, bs with
      | [op], [b] =>
        simp only [cE]
        split
        · exact pe_badD
        · rename_i h
          exact pe_cmpD (I.e lo n a) (I.e lo n b) (cmpO op) (by simpa using h)
      | [op, op'], [b, c] =>
        simp only [cE]
        split
        · exact pe_badD
        · rename_i h
          simp only [Bool.or_eq_true, not_or, Bool.not_eq_true] at h
          exact pe_cmp2D (I.e lo n a) (I.e lo n b) (I.e lo n c) (cmpO op) (cmpO op') h.1 h.2
      | [], [] => exact pe_badD
      | [], _ :: _ => exact pe_badD
      | [_], [] => exact pe_badD
      | [_], _ :: _ :: _ => exact pe_badD
      | [_, _], [] => exact pe_badD
      | [_, _], [_] => exact pe_badD
      | [_, _], _ :: _ :: _ :: _ => exact pe_badD
      | _ :: _ :: _ :: _, _ => exact pe_badD
    | BoolOp op es p =>
      match op, es with
      | .And, [] => exact pe_badD
      | .Or, [] => exact pe_badD
      | .And, [a] => exact pe_bool1 (I.e lo (n + 1) a)
      | .Or, [a] => exact pe_bool1 (I.e lo (n + 1) a)
      | .And, a :: b :: r => exact pe_andD hK (I.e lo n a) (I.e lo n (.BoolOp .And (b :: r) p))
      | .Or, a :: b :: r => exact pe_orD hK (I.e lo n a) (I.e lo n (.BoolOp .Or (b :: r) p))
    | IfExp t a b p => exact pe_iteD (I.t lo n t) (I.e lo n a) (I.e lo n b)
    | Tuple es j p =>
      simp only [cE]
      split
      · rename_i h
        exact pe_tupD (I.es lo n es h)
      · exact pe_badD
    | List es p =>
      simp only [cE]
      split
      · rename_i h
        exact pe_lstD (I.es lo n es h)
      · exact pe_badD
    | Attribute oe f p =>
      simp only [cE]
      split
      · rename_i i hi
        split
        · rename_i hp
          have e := o.nms f i hi
          subst e
          exact pe_attrD o.wd.hk (I.e lo n oe) hp
        · exact pe_badD
      · exact pe_badD
    | Subscript a i p =>
      simp only [cE]
      split
      · exact pe_revD hK (I.e lo n a)
      · exact pe_sliceD hK (I.e lo n a) (I.o lo n _) (I.o lo n _)
      · split
        · exact pe_badD
        · rename_i hs
          exact pe_subD hK (I.e lo n a) (I.e lo n i) (plainIx_of (by simpa using hs))
    | Call f es kws p =>
      cases kws with
      | cons _ _ => cases f <;> exact pe_badD
      | nil =>
        cases f with
        | Name x q => exact all_call o I
        | Attribute oe f q => exact all_meth o I
        | _ => exact pe_badD
    | ListComp elt gs scope p =>
      by_cases h1 : ∃ tg iter ifs, gs = [⟨tg, iter, ifs, 0⟩]
      · obtain ⟨tg, iter, ifs, rfl⟩ := h1
        exact all_comp o ih
      · by_cases h2 : ∃ tg iter tg1 iter1 ifs, gs = [⟨tg, iter, [], 0⟩, ⟨tg1, iter1, ifs, 0⟩]
        · obtain ⟨tg, iter, tg1, iter1, ifs, rfl⟩ := h2
          exact all_comp2 o ih
        · simp only [cE]
          split
          · exact absurd ⟨_, _, _, rfl⟩ h1
          · exact absurd ⟨_, _, _, _, _, rfl⟩ h2
          · exact pe_badD
    | _ => exact pe_badD
theorem all_ok : ∀ (m : Nat) (k : Ck) (X : Cx) (W : WX), CkOk k X G cl lv W → AllE G cl lv m k X W
  | 0, k, X, W, o => all_zero o
  | m + 1, k, X, W, o => ⟨all_e o (all_ok m), all_es (all_ok m k X W o), all_o (all_ok m k X W o), fun lo n e => all_t o (all_ok m k X W o) lo n e fun op es p => all_w o (all_ok m k X W o) lo n op es p, all_w o (all_ok m k X W o), all_i o (all_ok m k X W o)⟩
end
end Sd

set_option Elab.async false
set_option linter.all false
set_option maxRecDepth 100000
set_option maxHeartbeats 4000000
/-! Sd28: the IR of statements. -/
namespace Sd
open PySem PySem.Spec PyProof.Rows L2 Pi
def notTuple : Expr → Bool
  | .Tuple _ _ _ => false
  | _ => true
def notName : Expr → Bool
  | .Name _ _ => false
  | _ => true
/-- the targets that are plain local names of one line -/
def Ck.plainT (k : Ck) (line : Nat) : Expr → Option Str
  | .Name id pos => if k.kind id = some .local && pos.line == line then some id else none
  | _ => none
/-- no swapped stores -/
def noSwap (k : Ck) (t e : Expr) : Bool := match t, e with
  | .Tuple ts _ _, .Tuple vs _ _ => !(ts.length == 2 || ts.length == 3) || vs.length != ts.length || (vs.any fun | .Starred .. => true | _ => false) || decide ((ts.filterMap (k.plainT ((ts.head?.map (·.pos.line)).getD 0))).length ≠ ts.length) || vs.all (foldedForSure 8)
  | .List _ _, _ => false
  | _, _ => true
mutual
def cTt : Nat → Ck → Expr → Option Tgt
  | 0, _, _ => none
  | m + 1, k, e => match e with
    | .Name x _ => if (decide (k.kind x = some .local) || (decide (k.kind x = some .cell) && k.fnok x)) then (placeS x k.N).map .name else none
    | .Subscript a i _ => if isSlice i then none else some (.sub (cE m k a) (cE m k i))
    | .Tuple es _ _ => if es.all (fun e => !isStar e) then (cTts m k es).map .tup else none
    | _ => none
def cTts : Nat → Ck → List Expr → Option (List Tgt)
  | _, _, [] => some []
  | 0, _, _ :: _ => none
  | m + 1, k, e :: es => match cTt m k e, cTts m k es with
    | some t, some ts => some (t :: ts)
    | _, _ => none
end
def scopeOf : Expr → Option Scope
  | .ListComp _ _ s _ => some s
  | _ => none
/-- name = [..], the list's own way -/
def usedC (k : Ck) (y : Str) (py : Pos) (e : Expr) : Bool := match e with
  | .ListComp _ _ scope pos => decide (k.kind y = some .local) && (py.line == pos.line) && !(scope.names.any fun (n, kd) => n == y && (kd == .local || kd == .cell))
  | _ => false
mutual
def cS : Nat → Ck → Stmt → IS
  | 0, _, _ => .bad
  | m + 1, k, s => match s with
    | .Expr (.Constant (.str _) _ _) _ => .pass
    | .Expr e _ => if noComp e then .expr (cE m k e) else .bad
    | .Return (some e) _ => .ret (cE m k e)
    | .If t a b _ => .ite (cT m k t) (cSs m k a) (cSs m k b)
    | .While t b [] _ => .whl (cT m k t) (cSs m k b)
    | .For tg it b [] _ => if notSet it then (match cTg k tgN tg, cI m k tg it with
      | some itg, some wi => .for itg wi (cSs m k b)
      | _, _ => .bad) else .bad
    | .Break _ => .brk
    | .Continue _ => .cnt
    | .Pass _ => .pass
    | .Assign [t] e p => (match t with
      | .Name y py => if usedC k y py e then (match placeS y k.N with
          | some i => .asg (.name i) (cE m k e)
          | none => .bad)
        else if noComp e || decide (k.kind y = some .cell) then (match cTt m k t with
          | some it => .asg it (cE m k e)
          | none => .bad) else .bad
      | .Attribute o f _ => (match placeS f k.nms with
        | some i => .asg (.attr (cE m k o) i) (cE m k e)
        | none => .bad)
      | .Subscript _ _ _ => (match cTt m k t with
        | some it => .asg it (cE m k e)
        | none => .bad)
      | .Tuple ts _ _ => if noSwap k t e then (match cTt m k t with
          | some it => .asg it (cE m k e)
          | none => .bad)
        else (match ts, e with
          | [.Name x px, .Name y py], .Tuple [a, b] _ _ => if decide (k.kind x = some .local) && decide (k.kind y = some .local) && (py.line == px.line) && decide (x ≠ y) && !isStar a && !isStar b && !([a, b].all (constantsAlone 8)) then (match placeS x k.N, placeS y k.N with
            | some i, some j => .asg (.tup [.name i, .name j]) (.tup [cE m k a, cE m k b])
            | _, _ => .bad) else .bad
          | _, _ => .bad)
      | _ => .bad)
    | _ => .bad
def cSs : Nat → Ck → List Stmt → List IS
  | _, _, [] => []
  | 0, _, _ :: _ => [.bad]
  | m + 1, k, s :: r => cS m k s :: cSs m k r
end
end Sd

set_option Elab.async false
set_option linter.all false
set_option maxRecDepth 100000
set_option maxHeartbeats 4000000
/-! Sd29: soundness of the compiler of statements. -/
namespace Sd
open PySem PySem.Spec PyProof.Rows L2 Pi
section
variable {G : Geo} {cl : Cll} {lo n m lv : Nat} {W : WX} {X : Cx} {k : Ck} {c : Bool}
theorem sw_other {e t : Expr} {l : Nat} {env : PySem.Env} (h : notName t = true) : swapsWith e (some t) l env = pure false := by
  cases e <;> first | rfl | (cases t <;> first | rfl | cases h)
theorem sw_cell {e : Expr} {y : Str} {py : Pos} {l : Nat} {env : PySem.Env} (h : env.scope.names.lookup y = some .cell) : swapsWith e (some (.Name y py)) l env = pure false := by
  have hk : (env.kindOf y == some NameKind.local) = false := by
    show (env.scope.names.lookup y == some NameKind.local) = false
    rw [h]
    rfl
  cases e <;> first
    | rfl
    | (unfold swapsWith
       simp only [hk, Bool.and_false, Bool.false_and] <;> rfl)
theorem bk_fn {env : PySem.Env} (h : env.scope.kind = .function) : env.blockKind = .function := by
  unfold Env.blockKind
  rw [h]
  rfl
theorem fm_eq {env : PySem.Env} {k : Ck} (h : env.scope = k.sc) (line : Nat) (ts : List Expr) : (ts.filterMap fun
    | .Name id pos => if env.kindOf id == some .local && pos.line == line then some id else none
    | _ => none) = ts.filterMap (k.plainT line) := by
  congr
  funext e
  cases e <;> first | rfl | skip
  rename_i id pos
  show (if (env.scope.names.lookup id == some NameKind.local && pos.line == line) = true then some id else none) = Ck.plainT k line (.Name id pos)
  rw [h]
  simp only [Ck.plainT, Ck.kind]
  by_cases e1 : k.sc.names.lookup id = some NameKind.local
  · simp [e1]
  · have : (k.sc.names.lookup id == some NameKind.local) = false := by simpa using e1
    simp [e1, this]
theorem noSwap_ok {env : PySem.Env} (hs : env.scope = k.sc) {t e : Expr} (h : noSwap k t e = true) : swappedStores [t] e env = pure none := by
  cases t <;> first | rfl | skip
  · cases h
  · rename_i ts kk tp
    cases e <;> first | rfl | skip
    rename_i vs kk2 tp2
    simp only [noSwap, Bool.or_eq_true, decide_eq_true_eq] at h
    unfold swappedStores
    simp only
    generalize hF : List.filterMap _ ts = nm
    have hF' : nm = ts.filterMap (k.plainT ((ts.head?.map (·.pos.line)).getD 0)) := by rw [← hF]; exact fm_eq hs _ ts
    rw [← hF'] at h
    split
    · rfl
    rename_i h1
    split
    · rfl
    rename_i h2
    split
    · rfl
    rename_i h3
    split
    · rfl
    rename_i h4
    exfalso
    simp only [Bool.or_eq_true, not_or] at h1 h3
    rcases h with (((h | h) | h) | h) | h
    · exact h1.1.1 h
    · exact h1.1.2 h
    · exact h2 h
    · exact h3.1 (by simpa [bne_iff_ne] using h)
    · exact h4 h
theorem swap2_ok {env : PySem.Env} (hs : env.scope = k.sc) (hkd : k.sc.kind = .function) {x y : Str} {px py tp tp2 : Pos} {kk kk2 : Nat} {a b : Expr} (h : noSwap k (.Tuple [.Name x px, .Name y py] kk tp) (.Tuple [a, b] kk2 tp2) = false)
    (hx : k.kind x = some .local) (hy : k.kind y = some .local) (hl : (py.line == px.line) = true) (hxy : x ≠ y) (hc : [a, b].all (constantsAlone 8) = false) : swappedStores [.Tuple [.Name x px, .Name y py] kk tp] (.Tuple [a, b] kk2 tp2) env = pure (some [x, y]) := by
  simp only [noSwap, Bool.or_eq_false_iff, decide_eq_false_iff_not] at h
  obtain ⟨⟨⟨⟨h1, h2⟩, h3⟩, h4⟩, h5⟩ := h
  have fm : [Expr.Name x px, Expr.Name y py].filterMap (k.plainT px.line) = [x, y] := by
    simp [Ck.plainT, hx, hy, hl]
  unfold swappedStores
  simp only
  generalize hF : List.filterMap _ [Expr.Name x px, Expr.Name y py] = nm
  have hF' : nm = [x, y] := by rw [← fm, ← hF]; exact fm_eq hs px.line _
  subst hF'
  rw [if_neg (by rw [bk_fn (by rw [hs]; exact hkd)]; simp)]
  refine Eq.trans (if_neg (fun z => Bool.false_ne_true (h3.symm.trans z))) ?_
  rw [if_neg (by simp [List.eraseDups_cons, hxy, Ne.symm hxy]), if_neg (by rw [h5]; simp), if_neg (by rw [hc]; simp)]
theorem pg_zero {e : Expr} {t : Tgt} : PG X e (gT G cl lo 0 t W) := ⟨fun pins s σ H v u Q I r ⟨F, ca, μ, env, d, hh, r1, q⟩ => q.elim⟩
theorem pg_nameC (o : CkOk k X G cl lv W) {x : Str} {p : Pos} {t : Tgt} (h : (if (decide (k.kind x = some .local) || (decide (k.kind x = some .cell) && k.fnok x)) then (placeS x k.N).map Tgt.name else none) = some t) : PG X (.Name x p) (gT G cl lo n t W) := by
  cases n with
  | zero => exact pg_zero
  | succ n =>
    split at h
    · rename_i hc
      simp only [Option.map_eq_some_iff] at h
      obtain ⟨i, h1, rfl⟩ := h
      have hl : L2.Loc X.env.scope x ∧ (X.fn x = true ∨ X.env.scope.names.lookup x = some .local) := by
        unfold L2.Loc
        rw [o.sc]
        rcases Bool.or_eq_true_iff.mp hc with h | h
        · have := of_decide_eq_true h
          exact ⟨.inl this, .inr this⟩
        · rw [Bool.and_eq_true] at h
          exact ⟨.inr (of_decide_eq_true h.1), .inl (o.fn x h.2)⟩
      exact pg_nmD (by rw [o.N]; exact o.nd) (by rw [o.N]; exact placeS_get h1) hl.1 hl.2
    · cases h
theorem cTt_ok (o : CkOk k X G cl lv W) : ∀ (m : Nat), (∀ lo n e it, cTt m k e = some it → PG X e (gT G cl lo n it W)) ∧
    (∀ lo n es its, cTts m k es = some its → es.all (fun e => !isStar e) = true → PGs X es (gTs G cl lo n its W) ∧ (assignEach es X.env).length = its.length ∧ (assignEach es X.env).findIdx? (·.1) = none)
  | 0 => by
    refine ⟨fun lo n e it h => (by cases h), fun lo n es its h _ => ?_⟩
    cases es with
    | nil => cases h; exact ⟨pgs_nlD, rfl, rfl⟩
    | cons _ _ => cases h
  | m + 1 => by
    obtain ⟨ih1, ih2⟩ := cTt_ok o m
    refine ⟨fun lo n e it h => ?_, fun lo n es its h hs => ?_⟩
    · cases e <;> first | (cases h; done) | skip
      · rename_i a i p
        simp only [cTt] at h
        split at h
        · cases h
        · rename_i hsl
          cases h
          cases n with
          | zero => exact pg_zero
          | succ n => exact pg_sbD ((all_ok m k X W o).e lo n a) ((all_ok m k X W o).e lo n i) (fun v => by cases i <;> first | rfl | exact absurd rfl hsl)
      · exact pg_nameC o h
      · rename_i es kk p
        simp only [cTt] at h
        split at h
        · rename_i hs
          simp only [Option.map_eq_some_iff] at h
          obtain ⟨ts, h1, rfl⟩ := h
          cases n with
          | zero => exact pg_zero
          | succ n =>
            obtain ⟨a, b, c⟩ := ih2 lo n es ts h1 hs
            exact pg_tpD o.wd.hK o.cm a b c
        · cases h
    · cases es with
      | nil => cases h; exact ⟨pgs_nlD, rfl, rfl⟩
      | cons e es =>
        simp only [cTts] at h
        simp only [List.all_cons, Bool.and_eq_true] at hs
        split at h
        · rename_i y ys h1 h2
          cases h
          obtain ⟨a, b, c⟩ := ih2 lo n es ys h2 hs.2
          have hst : isStar e = false := by simpa using hs.1
          refine ⟨pgs_csD (ih1 lo n e y h1) a (by rw [assign_cons hst]; rfl), by rw [assign_cons hst]; simp [b], ?_⟩
          rw [assign_cons hst, List.findIdx?_cons]
          simp [c]
        · cases h
end
end Sd

set_option Elab.async false
set_option linter.all false
set_option maxRecDepth 100000
set_option maxHeartbeats 4000000
/-! Sd30: every statement. -/
namespace Sd
open PySem PySem.Spec PyProof.Rows L2 Pi
section
variable {G : Geo} {cl : Cll} {lo n m lv : Nat} {W : WX} {X : Cx} {k : Ck} {c : Bool}
theorem ps_zero {st : Stmt} {i : IS} : PS X st (tS G cl lo 0 i W) := ⟨fun pins s σ H E I ⟨F, ca, μ, env, hh, q⟩ => q.elim⟩
theorem ps_asgBad {st : Stmt} {t : Tgt} : PS X st (tS G cl lo n (.asg t .bad) W) := ⟨fun pins s σ H E I ⟨F, ca, μ, env, hh, q⟩ => by
  cases n with
  | zero => exact q.elim
  | succ n => cases n <;> exact q.elim⟩
theorem used_ok (o : CkOk k X G cl lv W) {m : Nat} {y : Str} {py spos : Pos} {i : Nat} {e : Expr} (hu : usedC k y py e = true) (hi : placeS y k.N = some i) : PS X (.Assign [.Name y py] e spos) (tS G cl lo n (.asg (.name i) (cE m k e)) W) := by
  cases n with
  | zero => exact ps_zero
  | succ n =>
    cases n with
    | zero => exact ⟨fun pins s σ H E I ⟨F, ca, μ, env, hh, q⟩ => q.elim⟩
    | succ n =>
      cases m with
      | zero => exact ps_asgBad
      | succ m =>
        cases e <;> first | (cases hu; done) | skip
        rename_i elt gs scope pos
        simp only [usedC, Bool.and_eq_true, decide_eq_true_eq, Bool.not_eq_true'] at hu
        obtain ⟨⟨h1, h2⟩, h3⟩ := hu
        have hyl : X.env.scope.names.lookup y = some .local := by rw [o.sc]; exact h1
        have hsw : swapsWith (.ListComp elt gs scope pos) (some (.Name y py)) spos.line X.env = pure true := sw_true (by rw [o.sc]; exact o.kd) hyl h2 h3
        have hN : X.N[i]? = some y := by rw [o.N]; exact placeS_get hi
        have nd : X.N.Nodup := by rw [o.N]; exact o.nd
        have A := all_ok (G := G) (cl := cl) (lv := lv) m
        by_cases g1 : ∃ tg iter ifs, gs = [⟨tg, iter, ifs, 0⟩]
        · obtain ⟨tg, iter, ifs, rfl⟩ := g1
          simp only [cE]
          split
          · rename_i hb
            rw [Bool.and_eq_true] at hb
            have ok : BlkOk X.N X.env.scope scope (ownOf k.N scope) := by rw [o.N, o.sc]; exact blkOk_by hb.1
            have ob := fun s H C cs fp => o.block (blk_kind hb.1) s H C cs fp
            split
            · rename_i itg it k1 k2
              split
              · rename_i hin
                split
                · exact ps_setLcD o.cm nd hin hN hyl hsw ((A k X W o).i lo n tg iter it k2) ok (fun s H C cs fp => cTg_ok (ob s H C cs fp) tgN tg itg k1) (fun s H C cs fp => pts_nil) (fun s H C cs fp => (A _ _ _ (ob s H C cs fp)).e lo n elt) (fsi_ok hb.2)
                · rename_i t
                  exact ps_setLcD o.cm nd hin hN hyl hsw ((A k X W o).i lo n tg iter it k2) ok (fun s H C cs fp => cTg_ok (ob s H C cs fp) tgN tg itg k1) (fun s H C cs fp => pts_one ((A _ _ _ (ob s H C cs fp)).t lo n t)) (fun s H C cs fp => (A _ _ _ (ob s H C cs fp)).e lo n elt) (fsi_ok hb.2)
                · exact ps_asgBad
              · exact ps_asgBad
            · exact ps_asgBad
          · exact ps_asgBad
        · by_cases g2 : ∃ tg iter tg1 iter1 ifs, gs = [⟨tg, iter, [], 0⟩, ⟨tg1, iter1, ifs, 0⟩]
          · obtain ⟨tg, iter, tg1, iter1, ifs, rfl⟩ := g2
            simp only [cE]
            split
            · rename_i hb
              simp only [Bool.and_eq_true] at hb
              have ok : BlkOk X.N X.env.scope scope (ownOf k.N scope) := by rw [o.N, o.sc]; exact blkOk_by hb.1.1
              have ob := fun s H C cs fp => o.block (blk_kind hb.1.1) s H C cs fp
              split
              · rename_i itg it itg1 it1 k1 k2 k3 k4
                split
                · rename_i hin
                  simp only [Bool.and_eq_true] at hin
                  have hv : ∀ i ∈ tgV tgN itg1, i ∈ (ownOf k.N scope).map (·.2) := fun i hi => by
                    have := List.all_eq_true.mp hin.2 i hi
                    simpa using this
                  split
                  · exact ps_setLc2D o.cm nd hin.1.1 hin.1.2 hN hyl hsw hv ((A k X W o).i lo n tg iter it k2) ok (fun s H C cs fp => cTg_ok (ob s H C cs fp) tgN tg itg k1) (fun s H C cs fp => (A _ _ _ (ob s H C cs fp)).i lo n tg1 iter1 it1 k4) (fun s H C cs fp => cTg_ok (ob s H C cs fp) tgN tg1 itg1 k3) (fun s H C cs fp => pts_nil) (fun s H C cs fp => (A _ _ _ (ob s H C cs fp)).e lo n elt) (fsi_ok hb.1.2) (fun env => fsi_ok hb.2)
                  · rename_i t
                    exact ps_setLc2D o.cm nd hin.1.1 hin.1.2 hN hyl hsw hv ((A k X W o).i lo n tg iter it k2) ok (fun s H C cs fp => cTg_ok (ob s H C cs fp) tgN tg itg k1) (fun s H C cs fp => (A _ _ _ (ob s H C cs fp)).i lo n tg1 iter1 it1 k4) (fun s H C cs fp => cTg_ok (ob s H C cs fp) tgN tg1 itg1 k3) (fun s H C cs fp => pts_one ((A _ _ _ (ob s H C cs fp)).t lo n t)) (fun s H C cs fp => (A _ _ _ (ob s H C cs fp)).e lo n elt) (fsi_ok hb.1.2) (fun env => fsi_ok hb.2)
                  · exact ps_asgBad
                · exact ps_asgBad
              · exact ps_asgBad
            · exact ps_asgBad
          · simp only [cE]
            split
            · exact absurd ⟨_, _, _, rfl⟩ g1
            · exact absurd ⟨_, _, _, _, _, rfl⟩ g2
            · exact ps_asgBad
theorem sole_other {e t : Expr} {l : Nat} {env : PySem.Env} (h : notName t = true) : swapsWithSole [t] e l env = pure false := sw_other (e := e) (l := l) (env := env) h
theorem sole_none {e t : Expr} {l : Nat} {env : PySem.Env} (h : noComp e = true) : swapsWithSole [t] e l env = pure false := sw_none (t := some t) (l := l) (env := env) h
theorem sole_cell {e : Expr} {y : Str} {py : Pos} {l : Nat} {env : PySem.Env} (h : env.scope.names.lookup y = some .cell) : swapsWithSole [.Name y py] e l env = pure false := sw_cell (e := e) (l := l) h
theorem asg_each {t : Expr} {env : PySem.Env} (h : isStar t = false) : (assignEach [t] env).map (·.2) = [assign t env] := by rw [assign_cons h]; rfl
theorem all_s (o : CkOk k X G cl lv W) : ∀ (m : Nat), (∀ lo n s, PS X s (tS G cl lo n (cS m k s) W)) ∧ (∀ lo n ss, PSs X ss (tSs G cl lo n (cSs m k ss) W))
  | 0 => by
    refine ⟨fun lo n s => ps_badD, fun lo n ss => ?_⟩
    cases ss with
    | nil => exact pss_nilD
    | cons s r =>
      exact ⟨fun pins s σ H E I ⟨F, ca, μ, env, hh, q⟩ => by cases n <;> exact q.elim⟩
  | m + 1 => by
    obtain ⟨ih1, ih2⟩ := all_s o m
    have A := all_ok m k X W o
    refine ⟨fun lo n s => ?_, fun lo n ss => ?_⟩
    · cases n with
      | zero => exact ps_zero
      | succ n =>
        cases s <;> first | exact ps_badD | skip
        · rename_i v p
          cases v with
          | none => exact ps_badD
          | some e => exact ps_retD (A.e lo n e)
        · rename_i ts e p
          match ts with
          | [] => exact ps_badD
          | _ :: _ :: _ => exact ps_badD
          | [t] =>
            cases t <;> first | exact ps_badD | skip
            · rename_i oe f q
              simp only [cS]
              split
              · rename_i i hi
                have e1 := o.nms f i hi
                subst e1
                cases n with
                | zero => exact ⟨fun pins s σ H E I ⟨F, ca, μ, env, hh, q⟩ => q.elim⟩
                | succ n => exact ps_fldD o.wd.hk (A.e lo n oe) (A.e lo (n + 1) e) (sw_other rfl)
              · exact ps_badD
            · rename_i a i q
              simp only [cS]
              split
              · rename_i it hi
                exact ps_asgD (A.e lo n e) ((cTt_ok o m).1 lo n _ it hi) (sole_other rfl) rfl (asg_each rfl)
              · exact ps_badD
            · rename_i y py
              simp only [cS]
              split
              · rename_i hu
                split
                · rename_i i hi
                  exact used_ok o hu hi
                · exact ps_badD
              · split
                · rename_i hc
                  split
                  · rename_i it hi
                    refine ps_asgD (A.e lo n e) ((cTt_ok o m).1 lo n _ it hi) ?_ rfl (asg_each rfl)
                    rcases Bool.or_eq_true_iff.mp hc with h | h
                    · exact sole_none h
                    · exact sole_cell (by rw [o.sc]; exact of_decide_eq_true h)
                  · exact ps_badD
                · exact ps_badD
            · rename_i es kk q
              simp only [cS]
              split
              · rename_i hn
                split
                · rename_i it hi
                  exact ps_asgD (A.e lo n e) ((cTt_ok o m).1 lo n _ it hi) (sole_other rfl) (noSwap_ok o.sc hn) (asg_each rfl)
                · exact ps_badD
              · rename_i hn
                split
                · rename_i x px y py a b k2 p2
                  split
                  · rename_i hc
                    simp only [Bool.and_eq_true, decide_eq_true_eq, Bool.not_eq_true'] at hc
                    obtain ⟨⟨⟨⟨⟨⟨c1, c2⟩, c3⟩, c4⟩, c5⟩, c6⟩, c7⟩ := hc
                    split
                    · rename_i i j hi hj
                      have hN := fun (x : Str) (i : Nat) (h : placeS x k.N = some i) => (show X.N[i]? = some x by rw [o.N]; exact placeS_get h)
                      match n with
                      | 0 => exact ⟨fun pins s σ H E I ⟨F, ca, μ, env, hh, q⟩ => q.elim⟩
                      | 1 => exact ⟨fun pins s σ H E I ⟨F, ca, μ, env, hh, q⟩ => q.elim⟩
                      | n + 2 =>
                        exact ps_parD o.cm (by rw [o.N]; exact o.nd) (hN x i hi) (hN y j hj) (fun z => c4 (by subst z; have := (hN x i hi).symm.trans (hN y i hj); exact Option.some.inj this)) (by rw [o.sc]; exact c1) (by rw [o.sc]; exact c2)
                          (pa_consD (A.e lo (n + 1) a) (pa_consD (A.e lo (n + 1) b) pa_nilD (star_cons c6)) (star_cons c5)) (swap2_ok o.sc o.kd (by simpa using hn) c1 c2 c3 c4 c7) (sole_other rfl)
                    · exact ps_badD
                  · exact ps_badD
                · exact ps_badD
        · rename_i tg it b els p
          cases els with
          | cons _ _ => exact ps_badD
          | nil =>
            simp only [cS]
            split
            · rename_i h
              split
              · rename_i itg wi h1 h2
                exact ps_forD o.po o.cm (A.i lo n tg it wi h2) (cTg_ok o tgN tg itg h1) (ih2 lo n b) (fsi_ok h)
              · exact ps_badD
            · exact ps_badD
        · rename_i t b els p
          cases els with
          | cons _ _ => exact ps_badD
          | nil => exact ps_whileD o.po (A.t lo n t) (ih2 lo n b)
        · exact ps_ifD (A.t lo n _) (ih2 lo n _) (ih2 lo n _)
        · rename_i e p
          have go : ∀ e, PS X (.Expr e p) (tS G cl lo (n + 1) (if noComp e then .expr (cE m k e) else .bad) W) := fun e => by
            split
            · rename_i h
              exact ps_exprD (A.e lo n e) (sw_none h)
            · exact ps_badD
          cases e <;> first | exact go _ | skip
          rename_i c j q
          cases c <;> first | exact go _ | skip
          exact PS.imp ps_doc fun E σ H ⟨F, ca, μ, env, hh, q⟩ => q σ F ca H Xt.rfl' hh.g hh.e
        · exact ps_passD
        · exact ps_breakD
        · exact ps_contD
    · cases ss with
      | nil => exact pss_nilD
      | cons s r => exact pss_consD (ih1 lo n s) (ih2 lo n r)
end
end Sd

set_option Elab.async false
set_option linter.all false
set_option maxRecDepth 100000
set_option maxHeartbeats 4000000
/-! Sd31: a def whose code is the compiled body. -/
namespace Sd
open PySem PySem.Spec PyProof.Rows L2 Pi
/-- what is known of the module's names -/
structure MdOk (K : PySem.W.Frag) (mg : Str → Option Value) (G : Geo) (gl : List (Str × Gk)) (free : List Str) (nms : List Str) (mkc : List Nat) : Prop where
  gl_ : ∀ x g, gl.lookup x = some g → (match g with
    | .val d => ∃ u v, mg x = some u ∧ RelV v u ∧ ∀ F ca, Rp G F ca d v
    | .fn i => mg x = some (.ref (G.fad i))
    | .cls c => mg x = some (.ref (G.cad c))
    | .bf id => mg x = some (.builtin id))
  free_ : ∀ x, free.contains x = true → mg x = none
  nms_ : ∀ m i, placeS m nms = some i → G.nm i = m
  gc : ∀ x c, gl.lookup x = some (.cls c) → c < G.T.cls.length
  gf : ∀ x i, gl.lookup x = some (.fn i) → ∃ F, G.T.fns[i]? = some F
  mkc_ : ∀ c, mkc.contains c = true → ∃ C, G.T.cls[c]? = some C ∧ C.exc = false
  is : ∀ X : Cx, X.K = K → IsOk X G
def ckOf (N : List Str) (scope : Scope) (gl : List (Str × Gk)) (free : List Str) (cells : List (Nat × Nat)) (nms : List Str) (mkc : List Nat) : Ck := ⟨N, scope, none, gl, free, cells, nms, mkc⟩
theorem fnD_of {P : Program} {w : World} {K : PySem.W.Frag} {mg : Str → Option Value} {base : Heap} {G : Geo} {gl : List (Str × Gk)} {free : List Str} {nms : List Str} {mkc : List Nat} {f : Nat} {Fn : Fn} {x qual : Str} {params : Arguments} {body : List Stmt} {scope : Scope} {dvs : List V} {kws : List (Str × V)} {fd : FuncData} {N ps : List Str} {cells : List (Nat × Nat)} {fuel : Nat}
    (M : MdOk K mg G gl free nms mkc) (hF : FunD K x qual params body scope dvs kws (G.fad f) fd) (S : FnScope N ps scope) (hp : ps.length = Fn.npar) (hN : N.length = Fn.nloc)
    (hd : ∀ n, n ≤ Fn.npar → Fn.npar - n ≤ Fn.dfl.length → ∃ dvs ds, Vals dvs ds ∧ (∀ F ca, Rps G F ca (Fn.dfl.drop (Fn.dfl.length - (Fn.npar - n))) dvs) ∧ Binds K fd ps ds)
    (hc : Fn.code = cSs fuel (ckOf N scope gl free cells nms mkc) body) : FnD P w K mg base G f Fn := by
  refine ⟨x, qual, params, body, scope, dvs, kws, fd, N, ps, hF, S, hp, hN, hd, fun cl k W cdv A outer s H E wd tk po lo => ?_⟩
  rw [hc]
  have ck : CkOk (ckOf N scope gl free cells nms mkc) (cxOf (L2.CX P w) P w K mg base N qual scope (G.fad f) cdv A outer s H E) G cl k W :=
    ⟨rfl, S.nd, rfl, S.kind, fun _ _ => rfl, M.gl_, M.free_, M.nms_, M.gc, M.gf, M.mkc_, wd, M.is _ rfl, rfl, po⟩
  exact (all_s ck fuel).2 lo bodyN body
end Sd

set_option Elab.async false
set_option linter.all false
set_option maxRecDepth 100000
set_option maxHeartbeats 4000000
/-! Sd32: what the written part of the heap tells, by one Bool. -/
namespace Sd
open PySem PySem.Spec PyProof.Rows L2 Pi
theorem dv_rp {K : PySem.W.Frag} {G : Geo} {d : D} {v : He.Dv} (h : dvOf d = some v) (F : Hp) (ca : List Addr) : Rp G F ca d (v.v K) := by
  cases d <;> first | (cases h; done) | (cases h; constructor)
theorem dvs_rp {K : PySem.W.Frag} {G : Geo} (F : Hp) (ca : List Addr) : ∀ {ds : List D} {vs : List He.Dv}, optAll dvOf ds = some vs → Rps G F ca ds (vs.map (He.Dv.v K))
  | [], vs, h => by cases h; exact .nil
  | d :: ds, vs, h => by
    simp only [optAll] at h
    split at h
    · rename_i y ys h1 h2
      cases h
      exact .cons (dv_rp h1 F ca) (dvs_rp F ca h2)
    · cases h
theorem glB_ok {t : Wt} {K : PySem.W.Frag} {h : Heap} {mg : Str → Option Value} (X : K.In h) (G : h.Ns mainGlobals mg) {x : Str} {g : Gk} (e : glB t K x g = true) : (match g with
    | .val d => ∃ u v, mg x = some u ∧ RelV v u ∧ ∀ F ca, Rp (t.geo K) F ca d v
    | .fn i => mg x = some (.ref ((t.geo K).fad i))
    | .cls c => mg x = some (.ref ((t.geo K).cad c))
    | .bf id => mg x = some (.builtin id)) := by
  cases g with
  | fn i => exact PySem.W.mg_of X G (He.eqO_ok (He.ba e).1)
  | cls c => exact PySem.W.mg_of X G (He.eqO_ok (He.ba e).1)
  | bf id => exact PySem.W.mg_of X G (He.eqO_ok e)
  | val d =>
    cases d <;> first | (cases e; done) | skip
    · obtain ⟨tk, hm⟩ := He.int_ok X G e
      exact ⟨_, .int _, hm, ⟨tk, rfl⟩, fun F ca => .int _⟩
    · obtain ⟨tk, hm⟩ := He.str_ok X G e
      exact ⟨_, .str _, hm, ⟨tk, rfl⟩, fun F ca => .str _⟩
    · rename_i ds
      simp only [glB] at e
      split at e
      · rename_i vs hv
        obtain ⟨h1, h2⟩ := He.ba e
        exact ⟨_, .ref (He.ga K x), PySem.W.mg_of X G (He.eqO_ok h1), rfl, fun F ca => .tup (He.tupB_ok h2 F) (dvs_rp F ca hv)⟩
      · cases e
theorem lookN_mem {α : Type} {x : Nat} {a : α} : ∀ {l : List (Nat × α)}, lookN x l = some a → (x, a) ∈ l
  | [], h => by cases h
  | (y, b) :: r, h => by
    simp only [lookN] at h
    split at h
    · rename_i e
      cases h
      subst e
      exact List.mem_cons_self
    · exact List.mem_cons_of_mem _ (lookN_mem h)
theorem klB_ok {t : Wt} {X : Cx} {c : Nat} {C : Kl} (h : klB t X.K c C = true) : KlOk X (t.geo X.K) c C := by
  unfold klB at h
  obtain ⟨h1, h⟩ := He.ba h
  obtain ⟨h2, h⟩ := He.ba h
  obtain ⟨h3, h⟩ := He.ba h
  obtain ⟨h4, h⟩ := He.ba h
  obtain ⟨h5, h⟩ := He.ba h
  obtain ⟨h6, h⟩ := He.ba h
  obtain ⟨h7, h⟩ := He.ba h
  obtain ⟨h8, h⟩ := He.ba h
  obtain ⟨h9, h⟩ := He.ba h
  obtain ⟨h10, h⟩ := He.ba h
  obtain ⟨h11, h12⟩ := He.ba h
  refine ⟨He.cls_ok h1, fun f hf => He.eqO_ok (List.all_eq_true.mp h2 f hf), of_decide_eq_true h3, fun m f hl => ?_, fun m f hl => ?_, h6, of_decide_eq_true h7, He.eqO_ok h8, ⟨h9, He.eqO_ok h10, h11, h12⟩⟩
  · have := List.all_eq_true.mp h4 _ (lookN_mem hl)
    simpa using this
  · have := List.all_eq_true.mp h5 _ (lookN_mem hl)
    obtain ⟨k1, k2⟩ := He.ba this
    obtain ⟨k2, k3⟩ := He.ba k2
    exact ⟨He.eqO_ok k1, k2, k3⟩
theorem kds_mem (κ : Kd) : κ ∈ kds := by cases κ <;> simp [kds]
theorem isB_ok {t : Wt} {K : PySem.W.Frag} (h : isB t K = true) (X : Cx) (e : X.K = K) : IsOk X (t.geo K) := by
  subst e
  unfold isB at h
  obtain ⟨h1, h⟩ := He.ba h
  obtain ⟨h2, h⟩ := He.ba h
  obtain ⟨h3, h⟩ := He.ba h
  obtain ⟨h4, h5⟩ := He.ba h
  have rng : ∀ {c : Nat} {C : Kl}, (t.geo X.K).T.cls[c]? = some C → c ∈ List.range t.T.cls.length := fun {c C} hc => List.mem_range.mpr (List.getElem?_eq_some_iff.mp hc).1
  have own : ∀ {c : Nat} {C : Kl}, (t.geo X.K).T.cls[c]? = some C → C.exc = false → _ := fun {c C} hc he => by
    have z := List.all_eq_true.mp h3 c (rng hc)
    have o : t.own c = true := by
      have hc' : t.T.cls[c]? = some C := hc
      simp [Wt.own, hc', he]
    rw [o] at z
    exact z
  refine ⟨fun κ y hy => ?_, fun κ c C hc => ?_, fun c C y hc he hy => ?_, fun c C c' C' hc he hc' => ?_, fun c C hc he => ?_, He.eqO_ok h4, of_decide_eq_true h5⟩
  · exact of_decide_eq_true (List.all_eq_true.mp (List.all_eq_true.mp h1 κ (kds_mem κ)) y hy)
  · exact of_decide_eq_true (List.all_eq_true.mp (List.all_eq_true.mp h2 κ (kds_mem κ)) c (rng hc))
  · exact of_decide_eq_true (List.all_eq_true.mp (He.ba (own hc he)).1 y hy)
  · exact of_decide_eq_true (List.all_eq_true.mp (He.ba (He.ba (own hc he)).2).1 c' (rng hc'))
  · exact He.eqO_ok (He.ba (He.ba (own hc he)).2).2
end Sd

set_option Elab.async false
set_option linter.all false
set_option maxRecDepth 100000
set_option maxHeartbeats 4000000
/-! Sd33: the world's facts; the head's Hook. -/
namespace Sd
open PySem PySem.Spec PyProof.Rows L2 Pi
theorem lookup_mem {α : Type} {x : Str} {a : α} : ∀ {l : List (Str × α)}, l.lookup x = some a → (x, a) ∈ l
  | [], h => by cases h
  | (y, b) :: r, h => by
    rw [List.lookup_cons] at h
    split at h
    · rename_i e
      cases h
      rw [beq_iff_eq.mp e]
      exact List.mem_cons_self
    · exact List.mem_cons_of_mem _ (lookup_mem h)
def mkcB (t : Wt) : Bool := t.mkc.all fun c => match t.T.cls[c]? with
  | some C => !C.exc
  | none => false
def nmB (T : Tab) : Bool := decide (T.nms.take 10 = ([("__eq__" : Str), PySem.dunder (Operator.Add).info.2, PySem.dunder (Operator.Sub).info.2, PySem.dunder (Operator.Mult).info.2, PySem.dunder (Operator.FloorDiv).info.2, PySem.dunder (Operator.Mod).info.2, PySem.dunder (Operator.Pow).info.2, "__len__", "__call__", "__neg__"] : List Str))
theorem md_ok {t : Wt} {K : PySem.W.Frag} {h : Heap} {mg : Str → Option Value} (X : K.In h) (N : h.Ns mainGlobals mg) (w : worldB t K = true) (hm : mkcB t = true) : MdOk K mg (t.geo K) t.gl t.free t.T.nms t.mkc := by
  unfold worldB at w
  obtain ⟨w1, w⟩ := He.ba w
  obtain ⟨w2, w⟩ := He.ba w
  obtain ⟨w3, w4⟩ := He.ba w
  have gl : ∀ {x : Str} {g : Gk}, t.gl.lookup x = some g → glB t K x g = true := fun {x g} e => List.all_eq_true.mp w1 _ (lookup_mem e)
  refine ⟨fun x g e => by
      have z := glB_ok X N (gl e)
      cases g <;> exact z, fun x e => ?_, fun m i e => ?_, fun x c e => ?_, fun x i e => ?_, fun c e => ?_, fun X' e => isB_ok w4 X' e⟩
  · exact He.free_ok X N (List.all_eq_true.mp w2 x (by simpa using e))
  · show t.T.nms.getD i "" = m
    rw [List.getD_eq_getElem?_getD, placeS_get e]
    rfl
  · exact of_decide_eq_true (He.ba (gl e)).2
  · have := of_decide_eq_true (He.ba (gl e)).2
    exact ⟨_, List.getElem?_eq_getElem this⟩
  · have := List.all_eq_true.mp hm c (by simpa using e)
    split at this
    · rename_i C hC
      exact ⟨C, hC, by simpa using this⟩
    · cases this
theorem kls_ok {t : Wt} {K : PySem.W.Frag} (w : worldB t K = true) (X : Cx) (e : X.K = K) : Kls X (t.geo K) := by
  subst e
  intro c C hc he
  unfold worldB at w
  obtain ⟨_, w⟩ := He.ba w
  obtain ⟨_, w⟩ := He.ba w
  obtain ⟨w3, _⟩ := He.ba w
  have hc' : t.T.cls[c]? = some C := hc
  have z := List.all_eq_true.mp w3 c (List.mem_range.mpr (List.getElem?_eq_some_iff.mp hc').1)
  rw [hc'] at z
  have z : (C.exc || klB t X.K c C) = true := z
  rw [he, Bool.false_or] at z
  exact klB_ok z
theorem nm_ok {t : Wt} {K : PySem.W.Frag} (h : nmB t.T = true) : NmOk (t.geo K) := by
  have e := of_decide_eq_true h
  have at_ : ∀ (i : Nat) (x : Str), i < 10 → (t.T.nms.take 10)[i]? = some x → (t.geo K).nm i = x := fun i x hi hx => by
    rw [List.getElem?_take, if_pos hi] at hx
    show t.T.nms.getD i "" = x
    rw [List.getD_eq_getElem?_getD, hx]
    rfl
  rw [e] at at_
  exact ⟨at_ 0 _ (by decide) rfl, at_ 1 _ (by decide) rfl, at_ 2 _ (by decide) rfl, at_ 3 _ (by decide) rfl, at_ 4 _ (by decide) rfl, at_ 5 _ (by decide) rfl, at_ 6 _ (by decide) rfl, at_ 7 _ (by decide) rfl, at_ 8 _ (by decide) rfl, at_ 9 _ (by decide) rfl⟩
/-! ### the Hook -/
theorem SaysW.world {t : Wt} {K : PySem.W.Frag} (c : SaysW t K) : worldB t K = true := (He.ba (show (worldB t K && t.fn.all fun d => d.ok K) = true from congrArg (fun z : He.AlD => z.1) c)).1
theorem SaysW.def_ {t : Wt} {K : PySem.W.Frag} (c : SaysW t K) (i : Nat) {d : He.DefD} (h : t.fn[i]? = some d) : ∃ fd, FunD K d.name d.qual d.params d.body d.scope (d.dvs K) (d.kws K) (t.fad K i) fd := by
  have c2 := (He.ba (show (worldB t K && t.fn.all fun d => d.ok K) = true from congrArg (fun z : He.AlD => z.1) c)).2
  have e : t.fn.map (fun d => He.fnW K d.at_) = t.fn.map He.DefD.val := congrArg (fun z : He.AlD => z.2) c
  have e2 : (t.fn.map fun d => He.fnW K d.at_)[i]? = (t.fn.map He.DefD.val)[i]? := by rw [e]
  rw [List.getElem?_map, List.getElem?_map, h] at e2
  have e3 : t.fad K i = He.fAd K d.at_ := by
    show He.fAd K (t.fn.getD i default).at_ = _
    rw [List.getD_eq_getElem?_getD, h]
    rfl
  rw [e3]
  exact He.DefD.funD (Option.some.inj e2) (List.all_eq_true.mp c2 d (List.mem_of_getElem? h))
end Sd

set_option Elab.async false
set_option linter.all false
set_option maxRecDepth 100000
set_option maxHeartbeats 4000000
/-! Sd34: the text's defs, compiled; the end. -/
namespace Sd
open PySem PySem.Spec PyProof.Rows L2 Pi
/-- what a def's IR needs beside its text -/
structure Di where
  N : List Str
  ps : List Str
  cells : List (Nat × Nat)
  mode : Mode
  dfl : List D
def cFuel : Nat := 300
def mkFn (gl : List (Str × Gk)) (free nms : List Str) (mkc : List Nat) (d : He.DefD) (i : Di) : Fn := ⟨i.ps.length, i.N.length, i.dfl, i.mode, cSs cFuel (ckOf i.N d.scope gl free i.cells nms mkc) d.body⟩
def scopeB (N ps : List Str) (sc : Scope) : Bool :=
  decide (sc.kind = .function) && (!sc.isCoroutine && (!sc.isGenerator && (decide N.Nodup && (decide (N.take ps.length = ps) && ((ps.all fun x => decide (sc.names.lookup x = some .local) || decide (sc.names.lookup x = some .cell)) && sc.names.all fun y => decide (y.2 ≠ .free))))))
theorem scopeB_ok {N ps : List Str} {sc : Scope} (h : scopeB N ps sc = true) : FnScope N ps sc := by
  unfold scopeB at h
  obtain ⟨h1, h⟩ := He.ba h
  obtain ⟨h2, h⟩ := He.ba h
  obtain ⟨h3, h⟩ := He.ba h
  obtain ⟨h4, h⟩ := He.ba h
  obtain ⟨h5, h⟩ := He.ba h
  obtain ⟨h6, h7⟩ := He.ba h
  refine ⟨of_decide_eq_true h1, by simpa using h2, by simpa using h3, of_decide_eq_true h4, of_decide_eq_true h5, fun x hx => ?_, fun y hy => of_decide_eq_true (List.all_eq_true.mp h7 y hy)⟩
  rcases Bool.or_eq_true_iff.mp (List.all_eq_true.mp h6 x hx) with z | z
  · exact .inl (of_decide_eq_true z)
  · exact .inr (of_decide_eq_true z)
/-- how a def binds what it is given: n values and the last defaults -/
structure BindOk (d : He.DefD) (i : Di) : Prop where
  none_ : i.dfl = [] → ∀ (kV doc pm : Value) (an : Option Addr) (cdv ct : Value) (us : List Value), us.length = i.ps.length → bindArgs (PySem.W.fnOf d.name d.qual d.params d.body d.scope .none kV doc pm an cdv ct) ⟨us, []⟩ = pure (i.ps.zip us)
  some_ : i.dfl ≠ [] → ∀ n, n ≤ i.ps.length → i.ps.length - n ≤ i.dfl.length → ∀ (T : Addr) (kV doc pm : Value) (an : Option Addr) (cdv ct : Value) (us its : List Value), us.length = n → its.length = i.dfl.length →
    ∃ k, bindArgs (PySem.W.fnOf d.name d.qual d.params d.body d.scope (.ref T) kV doc pm an cdv ct) ⟨us, []⟩ = seqItems? (.ref T) >>= k ∧ k (some its.toArray) = pure (i.ps.zip (us ++ its.drop (i.dfl.length - (i.ps.length - n))))
theorem fnD_say {t : Wt} {P : Program} {w : World} {K : PySem.W.Frag} {mg : Str → Option Value} {base : Heap} {f : Nat} {d : He.DefD} {i : Di} (c : SaysW t K) (M : MdOk K mg (t.geo K) t.gl t.free t.T.nms t.mkc)
    (hd : t.fn[f]? = some d) (hk : d.kwd = []) (hv : optAll dvOf i.dfl = some d.dfl) (hs : scopeB i.N i.ps d.scope = true) (hb : BindOk d i) : FnD P w K mg base (t.geo K) f (mkFn t.gl t.free t.T.nms t.mkc d i) := by
  obtain ⟨fd, F⟩ := c.def_ f hd
  have hlen : (d.dvs K).length = i.dfl.length := by
    have := (dvs_rp (K := K) (G := t.geo K) (fun _ => none) [] hv).length
    rw [this]; rfl
  refine fnD_of M F (scopeB_ok hs) rfl rfl (fun n h1 h2 => ?_) rfl
  have hr : ∀ F ca, Rps (t.geo K) F ca (i.dfl.drop (i.dfl.length - (i.ps.length - n))) ((d.dvs K).drop (i.dfl.length - (i.ps.length - n))) := fun F ca => (dvs_rp F ca hv).drop _
  by_cases he : i.dfl = []
  · have hn : n = i.ps.length := by
      have h2' : i.ps.length - n ≤ i.dfl.length := h2
      have h1' : n ≤ i.ps.length := h1
      rw [he] at h2'
      simp at h2'
      omega
    have e0 : d.dvs K = [] := by
      rw [he] at hlen
      exact List.eq_nil_of_length_eq_zero hlen
    rw [e0] at F
    refine ⟨[], [], .nil, fun F ca => ?_, ?_⟩
    · show Rps _ F ca (i.dfl.drop (i.dfl.length - (i.ps.length - n))) []
      have := hr F ca
      rw [e0, List.drop_nil] at this
      exact this
    · exact F.bindsN fun kV doc pm an cdv ct us hl => hb.none_ he kV doc pm an cdv ct us hl
  · obtain ⟨ds, v1, b1⟩ := F.binds1 (ps := i.ps) n (i.dfl.length - (i.ps.length - n)) (by intro z; rw [z] at hlen; exact he (List.eq_nil_of_length_eq_zero hlen.symm)) (by rw [hlen]; have h1' : n ≤ i.ps.length := h1; have h2' : i.ps.length - n ≤ i.dfl.length := h2; omega) (fun T kV doc pm an cdv ct us its hl hi => hb.some_ he n h1 h2 T kV doc pm an cdv ct us its hl (by rw [hi, hlen]))
    exact ⟨_, ds, v1, hr, b1⟩
end Sd

set_option Elab.async false
set_option linter.all false
set_option maxRecDepth 100000
set_option maxHeartbeats 4000000
/-! Sd35: the end. -/
namespace Sd
open PySem PySem.Spec PyProof.Rows L2 Pi
/-- what the text's table must be -/
structure TabOk (t : Wt) (dis : List Di) : Prop where
  fns : t.T.fns = List.zipWith (mkFn t.gl t.free t.T.nms t.mkc) t.fn dis
  def_ : ∀ (f : Nat) (d : He.DefD) (i : Di), t.fn[f]? = some d → dis[f]? = some i → d.kwd = [] ∧ optAll dvOf i.dfl = some d.dfl ∧ scopeB i.N i.ps d.scope = true ∧ BindOk d i
  nm : nmB t.T = true
  mkc : mkcB t = true
theorem txt_ok {t : Wt} {dis : List Di} {P : Program} {w : World} {K : PySem.W.Frag} {mg : Str → Option Value} {base h : Heap} (o : TabOk t dis) (c : SaysW t K) (X : K.In h) (N : h.Ns mainGlobals mg) : Txt P w K mg base (t.geo K) where
  hK := rfl
  nm := nm_ok o.nm
  fn := fun f Fn e => by
    have M := md_ok X N c.world o.mkc
    have e' : t.T.fns[f]? = some Fn := e
    rw [o.fns, List.getElem?_zipWith] at e'
    cases e1 : t.fn[f]? with
    | none => rw [e1] at e'; cases e'
    | some d =>
      cases e2 : dis[f]? with
      | none => rw [e1, e2] at e'; cases e'
      | some i =>
        rw [e1, e2] at e'
        cases e'
        obtain ⟨h1, h2, h3, h4⟩ := o.def_ f d i e1 e2
        exact fnD_say c M e1 h1 h2 h3 h4
  kl := fun X' e => kls_ok c.world X' e
/-- the law's promise at the end -/
theorem law_sp {G : Geo} {j f : Nat} (hrun : ∀ ns : List Int, ns.length ≤ 63 → ∃ μ, run G.T j 0 f [.arg (ns.map .int)] [] = .ok (.bl true) μ) {H : Hp} {a : Addr} {ns : List Int} (hl : ns.length ≤ 63) (hS : SqL G.K H a (ns.map V.int)) :
    spD G (run G.T j) f 1 [.ref a] H (fun v _ => v = .bl true) fun _ _ _ => False := by
  obtain ⟨μ, e⟩ := hrun ns hl
  refine ⟨rfl, 0, H, [], [], [.arg (ns.map .int)], Nat.le_refl _, ⟨Le.rfl', rfl, List.nodup_nil, (fun a h => by cases h), (fun k a c h => by simp at h)⟩, .cons (.arg hS rps_ints) .nil, ?_⟩
  rw [e]
  intro b F' ca' H' _ _ r
  cases r
  rfl
end Sd

set_option Elab.async false
set_option linter.all false
set_option maxRecDepth 100000
set_option maxHeartbeats 4000000
/-! Sd36: the law's walk. -/
namespace Sd
open PySem PySem.Spec PyProof.Rows L2 Pi
/-- how an exception may lie, whatever the world -/
def CXw (P : Program) : CXT := fun outer H s E u s' => ∃ w, L2.CX P w outer H s E u s'
theorem fnOk_cx {P : Program} {w : World} {K : PySem.W.Frag} {mg : Str → Option Value} {base : Heap} {k : Nat} {f : Addr} {fd : FuncData} {ps : List Str} {sp : Sp} (F : FnOk P w K mg base (L2.CX P w) k f fd ps sp) :
    FnOk P w K mg base (CXw P) k f fd ps sp :=
  ⟨F.len, fun A outer s H args us vs Q E hr he hb hv hs => codeAny_mono (F.run A outer s H args us vs Q E hr he hb hv hs) fun r s' z => by
    cases r with
    | ok v => cases v <;> first | exact z | exact z.elim
    | error e => exact ⟨w, z⟩⟩
theorem fnOk_of {P : Program} {w : World} {K : PySem.W.Frag} {mg : Str → Option Value} {base : Heap} {G : Geo} {gl : List (Str × Gk)} {free : List Str} {nms : List Str} {mkc : List Nat} {f : Nat} {Fn : Fn} {x qual : Str} {params : Arguments} {body : List Stmt} {scope : Scope} {dvs : List V} {kws : List (Str × V)} {fd : FuncData} {N ps : List Str} {cells : List (Nat × Nat)} {fuel : Nat}
    (t : Txt P w K mg base G) (M : MdOk K mg G gl free nms mkc) (hF : FunD K x qual params body scope dvs kws (G.fad f) fd) (hS : FnScope N ps scope) (hp : ps.length = Fn.npar) (hN : N.length = Fn.nloc)
    (hc : Fn.code = cSs fuel (ckOf N scope gl free cells nms mkc) body) (e : G.T.fns[f]? = some Fn) (j : Nat) : FnOk P w K mg base (L2.CX P w) (8 * (j + 1)) (G.fad f) fd ps (spD G (run G.T (j + 1)) f Fn.npar) := by
  refine hF.ok (k := 8 * j + 7) hS (fun vs H Q E h => h.1.trans hp.symm) fun cdv A outer s H vs Q E hr hs => ?_
  obtain ⟨hvl, lo, F, ca, μ, ds, hl, g, r, q⟩ := hs
  have tk : Takes (cxOf (L2.CX P w) P w K mg base N qual scope (G.fad f) cdv A outer s H E) (fun cls d _ H => E cls d H) := takes_of rfl rfl rfl rfl
  have po := passes_of (X := cxOf (L2.CX P w) P w K mg base N qual scope (G.fad f) cdv A outer s H E) rfl
  have wd : Wd (cxOf (L2.CX P w) P w K mg base N qual scope (G.fad f) cdv A outer s H E) G (run G.T j) (8 * j) (fun cls d _ H => E cls d H) :=
    ⟨t.hK, (prom_all t j).all _ rfl rfl rfl rfl rfl, t.kl _ rfl, hr, fun σ => passAt tk σ, t.nm.n0, t.nm.n1, t.nm.n2, t.nm.n3, t.nm.n4, t.nm.n5, t.nm.n6, t.nm.n7, t.nm.n8, t.nm.n9⟩
  have hlen : ds.length = Fn.npar := r.length.trans hvl
  have ck : CkOk (ckOf N scope gl free cells nms mkc) (cxOf (L2.CX P w) P w K mg base N qual scope (G.fad f) cdv A outer s H E) G (run G.T j) (8 * j) (fun cls d _ H => E cls d H) :=
    ⟨rfl, hS.nd, rfl, hS.kind, fun _ _ => rfl, M.gl_, M.free_, M.nms_, M.gc, M.gf, M.mkc_, wd, M.is _ rfl, rfl, po⟩
  simp only [Pi.run, e, if_pos hlen] at q
  have hb := (all_s ck fuel).2 (loOf Fn.mode lo μ) bodyN body
  have ec : cSs fuel (ckOf N scope gl free cells nms mkc) body = Fn.code := hc.symm
  rw [ec] at hb
  refine ⟨_, hb, F, ca, μ, _, ⟨?_, g, start_env r (by rw [hN, hvl])⟩, finish_ok hl g q⟩
  · cases Fn.mode <;> first | exact hl | exact Nat.le_refl _
theorem law_walk {l : PySem.W.OpenLaw} {q : Program} {loose : List Str} {XP : (Str → Option Value) → Heap → Prop} {d : DefRec} {n : Nat} {t' : Wt} (t : Wt) (lite : ∀ K, obsW t K = obsW t' K) (hfn : t.fn = t'.fn) (dis : List Di) (o : TabOk t dis) {f j : Nat} {dd : He.DefD} {i : Di}
    (hn : l.most = some 63) (hdf : d.params.defaults = []) (hr : Room (8 * (j + 1)) callerA) (hnm : d.name = ("law" : Str)) (hf : t.fn[f]? = some dd) (hi : dis[f]? = some i) (hg : t.gl.lookup ("law" : Str) = some (Gk.fn f)) (hps : i.ps = [("script" : Str)]) (hdl : i.dfl = [])
    (hrun : ∀ ns : List Int, ns.length ≤ 63 → ∃ μ, run t.T (j + 1) 0 f [.arg (ns.map .int)] [] = .ok (.bl true) μ) :
    PySem.W.WalkO q loose XP (hookW n t').says l.row.toRowW d [] (fun f vs => PySem.call f vs) := by
  refine L2.walk_ofE (l := l) (n := 63) (k := 8 * (j + 1)) (x := "script") (CX := CXw l.prog) hn (by decide) hdf hr ?F ?C
  case C =>
    rintro H s e s' ⟨w, a, B, H', cls, dd, h1, h2, h3, h4, h5, h6, h7, h8⟩
    exact h8
  case F =>
    intro w mg fa h Y G hmg0
    obtain ⟨K, KX, c'⟩ := Y
    have c : SaysW t K := by
      unfold SaysW
      rw [lite K, hfn]
      exact c'
    have hmg : mg ("law" : Str) = some (.ref fa) := by rw [← hnm]; exact hmg0
    have M := md_ok KX G c.world o.mkc
    have e0 : mg ("law" : Str) = some (.ref (t.fad K f)) := M.gl_ "law" (.fn f) hg
    obtain rfl : fa = t.fad K f := by
      have := hmg.symm.trans e0
      cases this
      rfl
    obtain ⟨fd, FD⟩ := c.def_ f hf
    obtain ⟨hk, hv, hs, hb⟩ := o.def_ f dd i hf hi
    have hdv : dd.dvs K = [] := by
      have := (dvs_rp (K := K) (G := t.geo K) (fun _ => none) [] hv).length
      rw [hdl] at this
      exact List.eq_nil_of_length_eq_zero this.symm
    rw [hdv] at FD
    have e1 : (t.geo K).T.fns[f]? = some (mkFn t.gl t.free t.T.nms t.mkc dd i) := by
      show t.T.fns[f]? = _
      rw [o.fns, List.getElem?_zipWith, hf, hi]
    have e2 : i.ps.length = 1 := by rw [hps]; rfl
    have BB := FD.bindsA (ps := i.ps) fun kV doc pm an cdv ct us hl => hb.none_ hdl kV doc pm an cdv ct us hl
    refine ⟨K, fd, spD (t.geo K) (run (t.geo K).T (j + 1)) f 1, KX, fun s u => ?_, fun H a ns hl _ hS => law_sp (G := t.geo K) hrun hl hS, fun base KB GB => ?_⟩
    · have := BB s [u] e2.symm
      rw [hps] at this
      exact this
    · have TX : Txt l.prog w K mg base (t.geo K) := txt_ok o c KB GB
      have MM := md_ok KB GB c.world o.mkc
      have := fnOk_of TX MM FD (scopeB_ok hs) rfl rfl rfl e1 j
      have z : FnOk l.prog w K mg base (L2.CX l.prog w) (8 * (j + 1)) (t.fad K f) fd i.ps (spD (t.geo K) (run (t.geo K).T (j + 1)) f i.ps.length) := this
      rw [e2, hps] at z
      exact fnOk_cx z
end Sd

set_option autoImplicit false
set_option linter.all false
/-! Px: equations of the evaluator, for simp. -/
namespace Pi
open PySem (Str)
theorem Out.bind_congr {α β : Type} {o o' : Out α} {f : α → Mu → Out β} (h : o = o') : o.bind f = o'.bind f := by rw [h]
theorem SOut.of_congr {α : Type} {o o' : Out α} {env : En} {f : α → Mu → SOut} (h : o = o') : SOut.of o env f = SOut.of o' env f := by rw [h]
theorem SOut.then_congr {o o' : SOut} {f : En → Mu → SOut} (h : o = o') : o.then f = o'.then f := by rw [h]
section
variable {T : Tab} {cl : Cll} {lo n m : Nat} {env : En} {μ : Mu}
@[simp] theorem evE_bad : evE T cl lo (n + 1) env .bad μ = .stuck := nr rfl
@[simp] theorem evE_cst {d : D} : evE T cl lo (n + 1) env (.cst d) μ = .ok d μ := nr rfl
@[simp] theorem evE_glb {d : D} : evE T cl lo (n + 1) env (.glb d) μ = .ok d μ := nr rfl
theorem evE_var {i : Nat} : evE T cl lo (n + 1) env (.var i) μ = (match env[i]? with
      | some (some d) => .ok d μ
      | _ => .stuck) := rfl
/-- a slot -/
def slot (env : En) (i : Nat) (μ : Mu) : Out D := match env[i]? with
      | some (some d) => .ok d μ
      | _ => .stuck
@[simp] theorem evE_var' {i : Nat} : evE T cl lo (n + 1) env (.var i) μ = slot env i μ := nr rfl
@[simp] theorem slot_zero {d : D} : slot (some d :: env) 0 μ = .ok d μ := nr rfl
@[simp] theorem slot_zeroN : slot (none :: env) 0 μ = .stuck := nr rfl
@[simp] theorem slot_succ {d : Option D} {i : Nat} : slot (d :: env) (i + 1) μ = slot env i μ := nr rfl
@[simp] theorem evE_bin {c : Bool} {op : BOp} {a b : IE} : evE T cl lo (n + 1) env (.bin c op a b) μ = (evE T cl lo n env a μ).bind fun x μ => (evE T cl lo n env b μ).bind fun y μ => binD T cl lo c op x y μ := nr rfl
/-- minus -/
def negD (T : Tab) (cl : Cll) (lo : Nat) (x : D) (μ : Mu) : Out D := match x with
      | .int i => .ok (.int (-i)) μ
      | _ => callM T cl lo 9 x [] μ
@[simp] theorem evE_neg {a : IE} : evE T cl lo (n + 1) env (.neg a) μ = (evE T cl lo n env a μ).bind fun x μ => negD T cl lo x μ := nr rfl
@[simp] theorem negD_int {i : Int} : negD T cl lo (.int i) μ = .ok (.int (-i)) μ := nr rfl
theorem negD_ins {c : Nat} {fs : List D} : negD T cl lo (.ins c fs) μ = callM T cl lo 9 (.ins c fs) [] μ := rfl
@[simp] theorem evE_cmp {op : COp} {a b : IE} : evE T cl lo (n + 1) env (.cmp op a b) μ = (evE T cl lo n env a μ).bind fun x μ => (evE T cl lo n env b μ).bind fun y μ => cmpD T cl op x y μ := nr rfl
/-- the second comparison -/
def cmp2D (T : Tab) (cl : Cll) (op' : COp) (k y : D) (z : Mu → Out D) (μ : Mu) : Out D := match k with
      | .bl true => (z μ).bind fun z μ => cmpD T cl op' y z μ
      | .bl false => .ok (.bl false) μ
      | _ => .stuck
@[simp] theorem evE_cmp2 {op op' : COp} {a b c : IE} : evE T cl lo (n + 1) env (.cmp2 op op' a b c) μ = (evE T cl lo n env a μ).bind fun x μ => (evE T cl lo n env b μ).bind fun y μ => (cmpD T cl op x y μ).bind fun k μ => cmp2D T cl op' k y (evE T cl lo n env c) μ := nr rfl
@[simp] theorem cmp2D_true {op' : COp} {y : D} {z : Mu → Out D} : cmp2D T cl op' (.bl true) y z μ = (z μ).bind fun z μ => cmpD T cl op' y z μ := nr rfl
@[simp] theorem cmp2D_false {op' : COp} {y : D} {z : Mu → Out D} : cmp2D T cl op' (.bl false) y z μ = .ok (.bl false) μ := nr rfl
theorem cmp2D_dec {op' : COp} {y : D} {z : Mu → Out D} {p : Prop} [Decidable p] : cmp2D T cl op' (.bl (decide p)) y z μ = if p then (z μ).bind fun z μ => cmpD T cl op' y z μ else .ok (.bl false) μ := by
  by_cases h : p <;> simp [h, cmp2D]
/-- a test's ways -/
def tst {α : Type} (μ : Mu) (x : D) (a b : Out α) : Out α := match truth μ x with
      | some true => a
      | some false => b
      | none => .stuck
@[simp] theorem tst_true {α : Type} {a b : Out α} : tst μ (.bl true) a b = a := nr rfl
@[simp] theorem tst_false {α : Type} {a b : Out α} : tst μ (.bl false) a b = b := nr rfl
theorem tst_bl {α : Type} {a b : Out α} {k : Bool} : tst μ (.bl k) a b = if k = true then a else b := by cases k <;> rfl
@[simp] theorem tst_dec {α : Type} {a b : Out α} {p : Prop} [Decidable p] : tst μ (.bl (decide p)) a b = if p then a else b := by
  by_cases h : p <;> simp [h]
@[simp] theorem tst_ndec {α : Type} {a b : Out α} {p : Prop} [Decidable p] : tst μ (.bl (!decide p)) a b = if p then b else a := by
  by_cases h : p <;> simp [h]
theorem tst_congr {α : Type} {a b : Out α} {x y : D} (h : x = y) : tst μ x a b = tst μ y a b := by rw [h]
@[simp] theorem evE_and {a b : IE} : evE T cl lo (n + 1) env (.and a b) μ = (evE T cl lo n env a μ).bind fun x μ => tst μ x (evE T cl lo n env b μ) (.ok x μ) := nr rfl
@[simp] theorem evE_or {a b : IE} : evE T cl lo (n + 1) env (.or a b) μ = (evE T cl lo n env a μ).bind fun x μ => tst μ x (.ok x μ) (evE T cl lo n env b μ) := nr rfl
/-- not -/
def notD (x : D) (μ : Mu) : Out D := match truth μ x with
      | some k => .ok (.bl (!k)) μ
      | none => .stuck
@[simp] theorem evE_not {a : IE} : evE T cl lo (n + 1) env (.not a) μ = (evE T cl lo n env a μ).bind fun x μ => notD x μ := nr rfl
@[simp] theorem notD_bl {b : Bool} : notD (.bl b) μ = .ok (.bl (!b)) μ := nr rfl
@[simp] theorem notD_tup {xs : List D} : notD (.tup xs) μ = .ok (.bl (!!xs.isEmpty)) μ := nr rfl
@[simp] theorem notD_lst {xs : List D} : notD (.lst xs) μ = .ok (.bl (!!xs.isEmpty)) μ := nr rfl
/-- one of two -/
def iteD {α : Type} (k : Bool) (a b : Mu → α) (μ : Mu) : α := if k then a μ else b μ
@[simp] theorem iteD_true {α : Type} {a b : Mu → α} : iteD true a b μ = a μ := nr rfl
@[simp] theorem iteD_false {α : Type} {a b : Mu → α} : iteD false a b μ = b μ := nr rfl
@[simp] theorem iteD_dec {α : Type} {a b : Mu → α} {p : Prop} [Decidable p] : iteD (decide p) a b μ = if p then a μ else b μ := by
  by_cases h : p <;> simp [h, iteD]
@[simp] theorem iteD_ndec {α : Type} {a b : Mu → α} {p : Prop} [Decidable p] : iteD (!decide p) a b μ = if p then b μ else a μ := by
  by_cases h : p <;> simp [h, iteD]
theorem iteD_congr {α : Type} {k k' : Bool} {a b : Mu → α} (h : k = k') : iteD k a b μ = iteD k' a b μ := by rw [h]
@[simp] theorem evE_ite {t a b : IE} : evE T cl lo (n + 1) env (.ite t a b) μ = (tru (evE T cl lo n env t μ)).bind fun k μ => iteD k (evE T cl lo n env a) (evE T cl lo n env b) μ := nr rfl
@[simp] theorem tru_bl {b : Bool} : tru (.ok (.bl b) μ) = .ok b μ := nr rfl
@[simp] theorem tru_int {i : Int} : tru (.ok (.int i) μ) = .ok (i != 0) μ := nr rfl
@[simp] theorem tru_tup {xs : List D} : tru (.ok (.tup xs) μ) = .ok (!xs.isEmpty) μ := nr rfl
@[simp] theorem tru_lst {xs : List D} : tru (.ok (.lst xs) μ) = .ok (!xs.isEmpty) μ := nr rfl
@[simp] theorem tru_ex {c : Nat} {fs : List D} : tru (.ex c fs μ) = .ex c fs μ := nr rfl
@[simp] theorem tru_ite {p : Prop} [Decidable p] {a b : Out D} : tru (if p then a else b) = if p then tru a else tru b := by split <;> rfl
@[simp] theorem truth_bl {b : Bool} : truth μ (.bl b) = some b := nr rfl
@[simp] theorem truth_int {i : Int} : truth μ (.int i) = some (i != 0) := nr rfl
@[simp] theorem truth_tup {xs : List D} : truth μ (.tup xs) = some (!xs.isEmpty) := nr rfl
@[simp] theorem truth_lst {xs : List D} : truth μ (.lst xs) = some (!xs.isEmpty) := nr rfl
@[simp] theorem truth_non : truth μ .non = some false := nr rfl
@[simp] theorem evE_tup {es : List IE} : evE T cl lo (n + 1) env (.tup es) μ = (evL (evE T cl lo n env) es μ).bind fun ds μ => newT ds μ := nr rfl
@[simp] theorem evE_lst {c : Bool} {es : List IE} : evE T cl lo (n + 1) env (.lst c es) μ = (evL (evE T cl lo n env) es μ).bind fun ds μ => newL c ds μ := nr rfl
@[simp] theorem evE_call {f : Nat} {es : List IE} : evE T cl lo (n + 1) env (.call f es) μ = (evL (evE T cl lo n env) es μ).bind fun ds μ => callF T cl lo f ds μ := nr rfl
@[simp] theorem evE_mk {c : Nat} {es : List IE} : evE T cl lo (n + 1) env (.mk c es) μ = (evL (evE T cl lo n env) es μ).bind fun ds μ => makeI T cl c ds μ := nr rfl
@[simp] theorem evE_callv {i : Nat} {es : List IE} : evE T cl lo (n + 1) env (.callv i es) μ = (match env[i]? with
      | some (some f) => if okV T f then (evL (evE T cl lo n env) es μ).bind fun ds μ => callV T cl lo f ds μ else .stuck
      | _ => .stuck) := nr rfl
/-- a method that is called -/
def methD (T : Tab) (cl : Cll) (lo m : Nat) (x : D) (args : Mu → Out (List D)) (μ : Mu) : Out D := match recvM T m x μ with
      | some f => (args μ).bind fun ds μ => callF T cl lo f (x :: ds) μ
      | none => .stuck
@[simp] theorem evE_meth {o : IE} {es : List IE} : evE T cl lo (n + 1) env (.meth m o es) μ = (evE T cl lo n env o μ).bind fun x μ => methD T cl lo m x (evL (evE T cl lo n env) es) μ := nr rfl
@[simp] theorem evE_prim {c : Bool} {p : Pr} {es : List IE} : evE T cl lo (n + 1) env (.prim c p es) μ = (evL (evE T cl lo n env) es μ).bind fun ds μ => prD T cl lo c p ds μ := nr rfl
/-- a list's method -/
def bmD (T : Tab) (cl : Cll) (lo : Nat) (c : Bool) (p : Pr) (x : D) (args : Mu → Out (List D)) (μ : Mu) : Out D := match isList μ x with
      | some _ => (args μ).bind fun ds μ => prD T cl lo c p (x :: ds) μ
      | none => .stuck
@[simp] theorem evE_bm {c : Bool} {p : Pr} {o : IE} {es : List IE} : evE T cl lo (n + 1) env (.bm c p o es) μ = (evE T cl lo n env o μ).bind fun x μ => bmD T cl lo c p x (evL (evE T cl lo n env) es) μ := nr rfl
/-- isinstance -/
def isinD (T : Tab) (x : D) (ts : List Ty) (μ : Mu) : Out D := match anyTy T μ x ts with
      | some b => .ok (.bl b) μ
      | none => .stuck
@[simp] theorem evE_isin {e : IE} {ts : List Ty} : evE T cl lo (n + 1) env (.isin e ts) μ = (evE T cl lo n env e μ).bind fun x μ => isinD T x ts μ := nr rfl
/-- a field -/
def getD (T : Tab) (x : D) (f : Nat) (μ : Mu) : Out D := match attrD T x f μ with
      | some d => .ok d μ
      | none => .stuck
@[simp] theorem evE_attr {o : IE} {f : Nat} : evE T cl lo (n + 1) env (.attr o f) μ = (evE T cl lo n env o μ).bind fun x μ => getD T x f μ := nr rfl
/-- an item -/
def itemD (x y : D) (μ : Mu) : Out D := match atD μ x y with
      | some d => .ok d μ
      | none => .stuck
@[simp] theorem evE_sub {a i : IE} : evE T cl lo (n + 1) env (.sub a i) μ = (evE T cl lo n env a μ).bind fun x μ => (evE T cl lo n env i μ).bind fun y μ => itemD x y μ := nr rfl
@[simp] theorem evE_slice {c : Bool} {a : IE} {l h : Option IE} : evE T cl lo (n + 1) env (.slice c a l h) μ = (evE T cl lo n env a μ).bind fun x μ => (evO (evE T cl lo n env) l μ).bind fun i μ => (evO (evE T cl lo n env) h μ).bind fun j μ => sliceD c x i j μ := nr rfl
@[simp] theorem evE_rev {c : Bool} {a : IE} : evE T cl lo (n + 1) env (.rev c a) μ = (evE T cl lo n env a μ).bind fun x μ => revD c x μ := nr rfl
/-- a comprehension, its parts as data -/
def compE (T : Tab) (cl : Cll) (lo n : Nat) (tg : Tg) (g : Chk) (cond : Option IE) (elt : IE) (env : En) (xs : List D) (μ : Mu) : Out (List D) :=
  nox (compL env tg g (condE (evE T cl lo n) cond) (fun e μ => one (evE T cl lo n e elt μ)) xs μ)
def comp2E (T : Tab) (cl : Cll) (lo n : Nat) (own1 : List Nat) (tg : Tg) (g : Chk) (tg1 : Tg) (it1 : Wk IE) (cond : Option IE) (elt : IE) (env : En) (xs : List D) (μ : Mu) : Out (List D) :=
  nox (compL env tg g (fun _ μ => .ok true μ) (fun e μ => (evI (evE T cl lo n e) it1 μ).bind fun q1 μ =>
          compL (wipe e own1) tg1 q1.2 (condE (evE T cl lo n) cond) (fun e μ => one (evE T cl lo n e elt μ)) q1.1 μ) xs μ)
@[simp] theorem evE_comp {c : Bool} {own : List Nat} {tg : Tg} {it : Wk IE} {cond : Option IE} {elt : IE} : evE T cl lo (n + 1) env (.comp c own tg it cond elt) μ = (evI (evE T cl lo n env) it μ).bind fun q μ =>
        (compE T cl lo n tg q.2 cond elt (wipe env own) q.1 μ).bind fun ds μ => newL c ds μ := nr rfl
@[simp] theorem evE_comp2 {c : Bool} {own own1 : List Nat} {tg tg1 : Tg} {it it1 : Wk IE} {cond : Option IE} {elt : IE} : evE T cl lo (n + 1) env (.comp2 c own own1 tg it tg1 it1 cond elt) μ = (evI (evE T cl lo n env) it μ).bind fun q μ =>
        (comp2E T cl lo n own1 tg q.2 tg1 it1 cond elt (wipe env own) q.1 μ).bind fun ds μ => newL c ds μ := nr rfl
@[simp] theorem evL_nil {ev : IE → Mu → Out D} : evL ev [] μ = .ok [] μ := nr rfl
@[simp] theorem evL_cons {ev : IE → Mu → Out D} {e : IE} {r : List IE} : evL ev (e :: r) μ = (ev e μ).bind fun d μ => (evL ev r μ).bind fun ds μ => .ok (d :: ds) μ := nr rfl
@[simp] theorem one_ok {d : D} : one (.ok d μ) = .ok [d] μ := nr rfl
@[simp] theorem one_ex {c : Nat} {fs : List D} : one (.ex c fs μ) = .ex c fs μ := nr rfl
@[simp] theorem condE_none {ev : En → IE → Mu → Out D} {e : En} : condE ev none e μ = .ok true μ := nr rfl
@[simp] theorem condE_some {ev : En → IE → Mu → Out D} {e : En} {t : IE} : condE ev (some t) e μ = tru (ev e t μ) := nr rfl
@[simp] theorem evO_none {ev : IE → Mu → Out D} : evO ev none μ = .ok none μ := nr rfl
/-- a bound of a slice -/
def bndD (d : D) (μ : Mu) : Out (Option Int) := match d with
    | .int i => if okR i then .ok (some i) μ else .stuck
    | _ => .stuck
@[simp] theorem bndD_int {i : Int} (h : okR i = true) : bndD (.int i) μ = .ok (some i) μ := by simp only [bndD, h, if_true]
@[simp] theorem evO_some {ev : IE → Mu → Out D} {e : IE} : evO ev (some e) μ = (ev e μ).bind fun d μ => bndD d μ := nr rfl
/-- what is walked -/
def seqI (d : D) (μ : Mu) : Out (List D × Chk) := match guard μ d with
    | some q => .ok q μ
    | none => .stuck
def rngI (ds : List D) (k : Nat) (μ : Mu) : Out (List D × Chk) := if ds.length = k then (match rangeD ds with
    | some xs => .ok (xs, []) μ
    | none => .stuck) else .stuck
def zipI (x y : D) (μ : Mu) : Out (List D × Chk) := match guard μ x, guard μ y with
    | some p, some q => if isTup x = isTup y then .ok (List.zipWith pair p.1 q.1, p.2 ++ q.2) μ else .stuck
    | _, _ => .stuck
def enumI (d : D) (μ : Mu) : Out (List D × Chk) := match guard μ d with
    | some q => if isTup d then .stuck else .ok (enumL 0 q.1, q.2) μ
    | none => .stuck
@[simp] theorem rngI_1 {j : Int} (h : okR j = true) : rngI [.int j] 1 μ = .ok (countUp 0 1 j.toNat, []) μ := by
  simp only [rngI, rangeD, h, List.length_singleton, if_true]
@[simp] theorem rngI_2 {i j : Int} (h1 : okR i = true) (h2 : okR j = true) : rngI [.int i, .int j] 2 μ = .ok (countUp i 1 (j - i).toNat, []) μ := by
  simp only [rngI, rangeD, h1, h2, List.length_cons, List.length_nil, if_true, Bool.and_self]
@[simp] theorem rngI_3 {i j : Int} (h1 : okR i = true) (h2 : okR j = true) : rngI [.int i, .int j, .int (-1)] 3 μ = .ok (countUp i (-1) (i - j).toNat, []) μ := by
  simp only [rngI, rangeD, h1, h2, List.length_cons, List.length_nil, if_true, and_self]
@[simp] theorem zipI_tup {xs ys : List D} : zipI (.tup xs) (.tup ys) μ = .ok (List.zipWith pair xs ys, []) μ := nr rfl
@[simp] theorem zipI_lst {xs ys : List D} : zipI (.lst xs) (.lst ys) μ = .ok (List.zipWith pair xs ys, []) μ := nr rfl
@[simp] theorem enumI_lst {xs : List D} : enumI (.lst xs) μ = .ok (enumL 0 xs, []) μ := nr rfl
@[simp] theorem evI_seq {ev : IE → Mu → Out D} {e : IE} : evI ev (.seq e) μ = (ev e μ).bind fun d μ => seqI d μ := nr rfl
@[simp] theorem seqI_tup {xs : List D} : seqI (.tup xs) μ = .ok (xs, []) μ := nr rfl
@[simp] theorem seqI_lst {xs : List D} : seqI (.lst xs) μ = .ok (xs, []) μ := nr rfl
@[simp] theorem seqI_arg {xs : List D} : seqI (.arg xs) μ = .ok (xs, []) μ := nr rfl
@[simp] theorem seqI_cell {k : Nat} : seqI (.cell k) μ = (match μ[k]? with
    | some (.lst xs) => .ok (xs, [(k, xs)]) μ
    | _ => .stuck) := by
  simp only [seqI, guard]
  cases μ[k]? with
  | none => rfl
  | some c => cases c <;> rfl
@[simp] theorem evI_range {ev : IE → Mu → Out D} {es : List IE} : evI ev (.range es) μ = (evL ev es μ).bind fun ds μ => rngI ds es.length μ := nr rfl
@[simp] theorem evI_zip {ev : IE → Mu → Out D} {a b : IE} : evI ev (.zip a b) μ = (ev a μ).bind fun x μ => (ev b μ).bind fun y μ => zipI x y μ := nr rfl
@[simp] theorem evI_enum {ev : IE → Mu → Out D} {a : IE} : evI ev (.enum a) μ = (ev a μ).bind fun d μ => enumI d μ := nr rfl
@[simp] theorem guard_tup {xs : List D} : guard μ (.tup xs) = some (xs, []) := nr rfl
@[simp] theorem guard_lst {xs : List D} : guard μ (.lst xs) = some (xs, []) := nr rfl
@[simp] theorem guard_arg {xs : List D} : guard μ (.arg xs) = some (xs, []) := nr rfl
@[simp] theorem isTup_tup {xs : List D} : isTup (.tup xs) = true := nr rfl
@[simp] theorem isTup_lst {xs : List D} : isTup (.lst xs) = false := nr rfl
@[simp] theorem isTup_arg {xs : List D} : isTup (.arg xs) = false := nr rfl
@[simp] theorem isTup_cell {k : Nat} : isTup (.cell k) = false := nr rfl
@[simp] theorem chkG_nil : chkG [] μ = true := nr rfl

/-! ### statements -/
@[simp] theorem exL_nil {ex : IS → En → Mu → SOut} : exL ex [] env μ = .next env μ := nr rfl
@[simp] theorem exL_cons {ex : IS → En → Mu → SOut} {s : IS} {r : List IS} : exL ex (s :: r) env μ = (ex s env μ).then (exL ex r) := nr rfl
@[simp] theorem then_next {f : En → Mu → SOut} : (SOut.next env μ).then f = f env μ := nr rfl
@[simp] theorem then_ret {d : D} {f : En → Mu → SOut} : (SOut.ret d μ).then f = .ret d μ := nr rfl
@[simp] theorem then_brk {f : En → Mu → SOut} : (SOut.brk env μ).then f = .brk env μ := nr rfl
@[simp] theorem then_cnt {f : En → Mu → SOut} : (SOut.cnt env μ).then f = .cnt env μ := nr rfl
@[simp] theorem then_ex {c : Nat} {fs : List D} {f : En → Mu → SOut} : (SOut.ex c fs env μ).then f = .ex c fs env μ := nr rfl
@[simp] theorem then_stuck {f : En → Mu → SOut} : SOut.stuck.then f = .stuck := nr rfl
theorem then_ite {p : Prop} [Decidable p] {a b : SOut} {f : En → Mu → SOut} : (if p then a else b).then f = if p then a.then f else b.then f := by split <;> rfl
theorem bind_ite {α β : Type} {p : Prop} [Decidable p] {a b : Out α} {f : α → Mu → Out β} : (if p then a else b).bind f = if p then a.bind f else b.bind f := by split <;> rfl
theorem of_ite {α : Type} {p : Prop} [Decidable p] {a b : Out α} {f : α → Mu → SOut} : SOut.of (if p then a else b) env f = if p then SOut.of a env f else SOut.of b env f := by split <;> rfl
@[simp] theorem exS_bad : exS T cl lo (n + 1) .bad env μ = .stuck := nr rfl
@[simp] theorem exS_expr {e : IE} : exS T cl lo (n + 1) (.expr e) env μ = SOut.of (evE T cl lo n env e μ) env fun _ μ => .next env μ := nr rfl
@[simp] theorem exS_asg {t : Tgt} {e : IE} : exS T cl lo (n + 1) (.asg t e) env μ = SOut.of (evE T cl lo n env e μ) env fun d μ => asT T cl lo n t d env μ := nr rfl
@[simp] theorem exS_ret {e : IE} : exS T cl lo (n + 1) (.ret e) env μ = SOut.of (evE T cl lo n env e μ) env fun d μ => .ret d μ := nr rfl
@[simp] theorem exS_ite {t : IE} {a b : List IS} : exS T cl lo (n + 1) (.ite t a b) env μ = SOut.of (tru (evE T cl lo n env t μ)) env fun k μ => iteD k (exL (exS T cl lo n) a env) (exL (exS T cl lo n) b env) μ := nr rfl
/-- loops, their parts as data -/
def whlE (T : Tab) (cl : Cll) (lo n : Nat) (t : IE) (b : List IS) (m : Nat) (env : En) (μ : Mu) : SOut := whlL (fun env μ => tru (evE T cl lo n env t μ)) (exL (exS T cl lo n) b) m env μ
def forE (T : Tab) (cl : Cll) (lo n : Nat) (tg : Tg) (g : Chk) (b : List IS) (xs : List D) (env : En) (μ : Mu) : SOut := forL tg g (exL (exS T cl lo n) b) xs env μ
@[simp] theorem exS_whl {t : IE} {b : List IS} : exS T cl lo (n + 1) (.whl t b) env μ = whlE T cl lo n t b whlN env μ := nr rfl
@[simp] theorem exS_for {tg : Tg} {it : Wk IE} {b : List IS} : exS T cl lo (n + 1) (.for tg it b) env μ = SOut.of (evI (evE T cl lo n env) it μ) env fun q μ => forE T cl lo n tg q.2 b q.1 env μ := nr rfl
@[simp] theorem exS_brk : exS T cl lo (n + 1) .brk env μ = .brk env μ := nr rfl
@[simp] theorem exS_cnt : exS T cl lo (n + 1) .cnt env μ = .cnt env μ := nr rfl
@[simp] theorem exS_pass : exS T cl lo (n + 1) .pass env μ = .next env μ := nr rfl
/-- an exception is raised -/
def rsS (T : Tab) (c : Nat) (ds : List D) (env : En) (μ : Mu) : SOut := match T.cls[c]? with
      | some C => .ex c (if C.flds.isEmpty then [] else ds) env μ
      | none => .stuck
@[simp] theorem exS_raise {c : Nat} {es : List IE} : exS T cl lo (n + 1) (.raise c es) env μ = SOut.of (evL (evE T cl lo n env) es μ) env fun ds μ => rsS T c ds env μ := nr rfl
/-- what follows a try's body -/
def tryS (T : Tab) (hs : List (Nat × HB)) (o : SOut) : SOut := match o with
      | .ex c fs env μ => hdS T c fs env μ hs
      | o => o
@[simp] theorem exS_try {b : List IS} {hs : List (Nat × HB)} : exS T cl lo (n + 1) (.try b hs) env μ = tryS T hs (exL (exS T cl lo n) b env μ) := nr rfl
theorem tryS_congr {hs : List (Nat × HB)} {o o' : SOut} (h : o = o') : tryS T hs o = tryS T hs o' := by rw [h]
@[simp] theorem tryS_ex {hs : List (Nat × HB)} {c : Nat} {fs : List D} : tryS T hs (.ex c fs env μ) = hdS T c fs env μ hs := nr rfl
@[simp] theorem tryS_next {hs : List (Nat × HB)} : tryS T hs (.next env μ) = .next env μ := nr rfl
@[simp] theorem tryS_ret {hs : List (Nat × HB)} {d : D} : tryS T hs (.ret d μ) = .ret d μ := nr rfl
@[simp] theorem asT_name {i : Nat} {d : D} : asT T cl lo (n + 1) (.name i) d env μ = if i < env.length then .next (env.set i (some d)) μ else .stuck := nr rfl
@[simp] theorem asT_tup {ts : List Tgt} {xs : List D} : asT T cl lo (n + 1) (.tup ts) (.tup xs) env μ = if xs.length = ts.length then asL (asT T cl lo n) ts xs env μ else .stuck := nr rfl
@[simp] theorem asT_lst {ts : List Tgt} {xs : List D} : asT T cl lo (n + 1) (.tup ts) (.lst xs) env μ = if xs.length = ts.length then asL (asT T cl lo n) ts xs env μ else .stuck := nr rfl
/-- an item is set -/
def subS (lo : Nat) (x y d : D) (env : En) (μ : Mu) : SOut := match y with
      | .int i => (match wrL lo x μ (fun xs => (ixOf xs.length i).map fun k => xs.set k d) with
        | some μ => .next env μ
        | none => .stuck)
      | _ => .stuck
theorem subS_cell {k i : Nat} {d : D} {xs : List D} (h : μ[k]? = some (.lst xs)) (hk : lo ≤ k) (hi : i < xs.length) : subS lo (.cell k) (.int i) d env μ = .next env (μ.set k (.lst (xs.set i d))) := by
  have h1 : (0 : Int) ≤ i := by omega
  have h2 : (i : Int) < xs.length := by omega
  simp only [subS, wrL, hk, h, ixOf, h1, h2, if_true, Option.map_some, Int.toNat_natCast]
@[simp] theorem asT_sub {a i : IE} {d : D} : asT T cl lo (n + 1) (.sub a i) d env μ = SOut.of (evE T cl lo n env a μ) env fun x μ => SOut.of (evE T cl lo n env i μ) env fun y μ => subS lo x y d env μ := nr rfl
/-- a field is set -/
def attrS (T : Tab) (lo : Nat) (x : D) (f : Nat) (d : D) (env : En) (μ : Mu) : SOut := match x with
      | .cell k => if lo ≤ k then (match μ[k]? with
        | some (.obj c fs) => (match T.cls[c]? with
          | some C => if fs.length < 900 ∧ C.exc = false ∧ C.flds.contains f = true ∧ (fs.all fun q => C.flds.contains q.1) = true then .next env (μ.set k (.obj c (putN f d fs))) else .stuck
          | none => .stuck)
        | _ => .stuck) else .stuck
      | _ => .stuck
theorem attrS_cell {k c f : Nat} {d : D} {fs : List (Nat × D)} {C : Kl} (h : μ[k]? = some (.obj c fs)) (hk : lo ≤ k) (hc : T.cls[c]? = some C) (hx : C.exc = false) (hl : fs.length < 900) (hf : C.flds.contains f = true) (ha : (fs.all fun q => C.flds.contains q.1) = true) : attrS T lo (.cell k) f d env μ = .next env (μ.set k (.obj c (putN f d fs))) := by
  simp only [attrS, hk, h, hc, hx, hl, hf, ha, if_true, and_self]
@[simp] theorem asT_attr {a : IE} {f : Nat} {d : D} : asT T cl lo (n + 1) (.attr a f) d env μ = SOut.of (evE T cl lo n env a μ) env fun x μ => attrS T lo x f d env μ := nr rfl
@[simp] theorem asL_nil {as : Tgt → D → En → Mu → SOut} : asL as [] [] env μ = .next env μ := nr rfl
@[simp] theorem asL_cons {as : Tgt → D → En → Mu → SOut} {t : Tgt} {ts : List Tgt} {x : D} {xs : List D} : asL as (t :: ts) (x :: xs) env μ = (as t x env μ).then (asL as ts xs) := nr rfl
/-! ### targets -/
@[simp] theorem setTg_name {i : Nat} {d : D} : setTg n (.name i) d env = if i < env.length then some (env.set i (some d)) else none := by cases n <;> rfl
@[simp] theorem setTg_tup {ts : List Tg} {xs : List D} : setTg (n + 1) (.tup ts) (.tup xs) env = setTgs (setTg n) ts xs env := nr rfl
@[simp] theorem setTgs_nil {f : Tg → D → En → Option En} : setTgs f [] [] env = some env := nr rfl
@[simp] theorem setTgs_cons {f : Tg → D → En → Option En} {t : Tg} {ts : List Tg} {x : D} {xs : List D} : setTgs f (t :: ts) (x :: xs) env = (f t x env).bind (setTgs f ts xs) := nr rfl

/-! ### comparisons -/
@[simp] theorem cmpD_eq {a b : D} : cmpD T cl .eq a b μ = (match eqv T cl μ eqN a b with
    | some k => .ok (.bl k) μ
    | none => .stuck) := nr rfl
@[simp] theorem cmpD_ne {a b : D} : cmpD T cl .ne a b μ = (match eqv T cl μ eqN a b with
    | some k => .ok (.bl (!k)) μ
    | none => .stuck) := nr rfl
@[simp] theorem cmpD_lt {i j : Int} : cmpD T cl .lt (.int i) (.int j) μ = .ok (.bl (decide (i < j))) μ := nr rfl
@[simp] theorem cmpD_le {i j : Int} : cmpD T cl .le (.int i) (.int j) μ = .ok (.bl (decide (i ≤ j))) μ := nr rfl
@[simp] theorem cmpD_gt {i j : Int} : cmpD T cl .gt (.int i) (.int j) μ = .ok (.bl (decide (j < i))) μ := nr rfl
@[simp] theorem cmpD_ge {i j : Int} : cmpD T cl .ge (.int i) (.int j) μ = .ok (.bl (decide (j ≤ i))) μ := nr rfl
@[simp] theorem eqN_eq : eqN = 5 + 1 := nr rfl
@[simp] theorem eqv_int {i j : Int} : eqv T cl μ (n + 1) (.int i) (.int j) = some (decide (i = j)) := nr rfl
@[simp] theorem eqv_str {i j : Str} : eqv T cl μ (n + 1) (.str i) (.str j) = some (decide (i = j)) := nr rfl
@[simp] theorem eqv_bl {i j : Bool} : eqv T cl μ (n + 1) (.bl i) (.bl j) = some (i == j) := nr rfl
@[simp] theorem eqv_tup {xs ys : List D} : eqv T cl μ (n + 1) (.tup xs) (.tup ys) = allEq (eqv T cl μ n) xs ys := nr rfl
@[simp] theorem eqv_lst {xs ys : List D} : eqv T cl μ (n + 1) (.lst xs) (.lst ys) = if xs.length = ys.length then allEq (eqv T cl μ n) xs ys else some false := nr rfl
@[simp] theorem eqv_ins_str {c : Nat} {fs : List D} {s : Str} : eqv T cl μ (n + 1) (.ins c fs) (.str s) = insV T cl μ (.ins c fs) (.str s) := nr rfl
@[simp] theorem cmpD_is_bl {x y : Bool} : cmpD T cl .is (.bl x) (.bl y) μ = .ok (.bl (decide (x = y))) μ := nr rfl
@[simp] theorem cmpD_isnot_bl {x y : Bool} : cmpD T cl .isnot (.bl x) (.bl y) μ = .ok (.bl (!decide (x = y))) μ := nr rfl
@[simp] theorem cmpD_is_non {x : D} : cmpD T cl .is x .non μ = .ok (.bl (decide (x = .non))) μ := by cases x <;> rfl
@[simp] theorem cmpD_isnot_non {x : D} : cmpD T cl .isnot x .non μ = .ok (.bl (!decide (x = .non))) μ := by cases x <;> rfl
@[simp] theorem dec_int_non {i : Int} : (D.int i = D.non) = False := by simp
/-! ### operators -/
@[simp] theorem binD_add {c : Bool} {i j : Int} : binD T cl lo c .add (.int i) (.int j) μ = .ok (.int (i + j)) μ := nr rfl
@[simp] theorem binD_sub {c : Bool} {i j : Int} : binD T cl lo c .sub (.int i) (.int j) μ = .ok (.int (i - j)) μ := nr rfl
theorem binD_mul {c : Bool} {i j : Int} (h : okMul i j = true) : binD T cl lo c .mul (.int i) (.int j) μ = .ok (.int (i * j)) μ := by simp [binD, binI, h]
theorem binD_mod {c : Bool} {i j : Int} (h : j ≠ 0) : binD T cl lo c .mod (.int i) (.int j) μ = .ok (.int (i.fmod j)) μ := by simp [binD, binI, h]
theorem binD_fdiv {c : Bool} {i j : Int} (h : j ≠ 0) (h2 : j.natAbs.log2 < 9000) : binD T cl lo c .fdiv (.int i) (.int j) μ = .ok (.int (i.fdiv j)) μ := by simp [binD, binI, h, h2]
theorem okMul_right {i j : Int} (h : j.natAbs < 18446744073709551616) : okMul i j = true := by simp [okMul, h]
theorem okMul_left {i j : Int} (h : i.natAbs < 18446744073709551616) : okMul i j = true := by simp [okMul, h]
end

/-! ### loops -/
section
variable {T : Tab} {cl : Cll} {lo n m : Nat} {env : En} {μ : Mu}
/-- a comprehension that changes nothing -/
theorem compL_map {tg : Tg} {g : Chk} {cond : En → Mu → Out Bool} {elt : En → Mu → Out (List D)} (f : D → D) (hg : chkG g μ = true) : ∀ {xs : List D},
    (∀ x ∈ xs, ∃ e, setTg tgN tg x env = some e ∧ cond e μ = .ok true μ ∧ elt e μ = .ok [f x] μ) → compL env tg g cond elt xs μ = .ok (xs.map f) μ
  | [], _ => by simp [compL, hg]
  | x :: r, h => by
    obtain ⟨e, h1, h2, h3⟩ := h x (by simp)
    simp only [compL, hg, if_true, h1, h2, Out.bind_ok, h3, compL_map f hg (xs := r) fun y hy => h y (by simp [hy])]
    rfl
theorem compL_filter {tg : Tg} {g : Chk} {cond : En → Mu → Out Bool} {elt : En → Mu → Out (List D)} (p : D → Bool) (f : D → D) (hg : chkG g μ = true) : ∀ {xs : List D},
    (∀ x ∈ xs, ∃ e, setTg tgN tg x env = some e ∧ cond e μ = .ok (p x) μ ∧ (p x = true → elt e μ = .ok [f x] μ)) → compL env tg g cond elt xs μ = .ok ((xs.filter p).map f) μ
  | [], _ => by simp [compL, hg]
  | x :: r, h => by
    obtain ⟨e, h1, h2, h3⟩ := h x (by simp)
    have ih := compL_filter p f hg (xs := r) fun y hy => h y (by simp [hy])
    cases hp : p x with
    | true => simp only [compL, hg, if_true, h1, h2, Out.bind_ok, hp, h3 hp, ih, List.filter_cons, List.map_cons, List.cons_append, List.nil_append]
    | false =>
      simp only [compL, hg, if_true, h1, h2, Out.bind_ok, hp, ih, List.filter_cons]
      simp
/-- a comprehension in a state -/
theorem compL_ex {tg : Tg} {g : Chk} {cond : En → Mu → Out Bool} {elt : En → Mu → Out (List D)} (I : Mu → Prop) (P : D → Prop) (hg : ∀ μ, I μ → chkG g μ = true) : ∀ {xs : List D},
    (∀ x ∈ xs, ∀ μ, I μ → ∃ e, setTg tgN tg x env = some e ∧ cond e μ = .ok true μ ∧ ∃ y μ', elt e μ = .ok [y] μ' ∧ I μ' ∧ P y) → ∀ {μ : Mu}, I μ → ∃ ys μ', compL env tg g cond elt xs μ = .ok ys μ' ∧ I μ' ∧ ys.length = xs.length ∧ ∀ y ∈ ys, P y
  | [], _, μ, hI => ⟨[], μ, by simp [compL, hg μ hI], hI, rfl, by simp⟩
  | x :: r, h, μ, hI => by
    obtain ⟨e, h1, h2, y, μ', h3, h4, h5⟩ := h x (by simp) μ hI
    obtain ⟨ys, μ2, k1, k2, k3, k4⟩ := compL_ex I P hg (xs := r) (fun y hy => h y (by simp [hy])) h4
    refine ⟨y :: ys, μ2, ?_, k2, by simp [k3], by simpa using ⟨h5, k4⟩⟩
    simp only [compL, hg μ hI, if_true, h1, h2, Out.bind_ok, h3, k1]
    rfl
/-- a loop: what holds between two turns -/
theorem forL_ex {tg : Tg} {g : Chk} {b : En → Mu → SOut} (I : List D → En → Mu → Prop) (hg : ∀ r e μ, I r e μ → chkG g μ = true)
    (h : ∀ x r e μ, I (x :: r) e μ → ∃ e1, setTg tgN tg x e = some e1 ∧ ∃ e2 μ2, (b e1 μ = .next e2 μ2 ∨ b e1 μ = .cnt e2 μ2) ∧ I r e2 μ2) : ∀ {xs : List D} {env : En} {μ : Mu}, I xs env μ → ∃ e' μ', forL tg g b xs env μ = .next e' μ' ∧ I [] e' μ'
  | [], env, μ, hI => ⟨env, μ, by simp [forL, hg _ _ _ hI], hI⟩
  | x :: r, env, μ, hI => by
    obtain ⟨e1, h1, e2, μ2, h2, h3⟩ := h x r env μ hI
    obtain ⟨e', μ', k1, k2⟩ := forL_ex I hg h h3
    refine ⟨e', μ', ?_, k2⟩
    rcases h2 with h2 | h2 <;> simp only [forL, hg _ _ _ hI, if_true, h1, h2, k1]
end
end Pi
namespace Pi
open PySem (Str)
section
variable {T : Tab} {cl : Cll} {lo n m : Nat} {env : En} {μ : Mu}
/-! ### kinds -/
@[simp] theorem isinD_int {i : Int} {ts : List Ty} : isinD T (.int i) ts μ = .ok (.bl (ts.any (isK .int))) μ := by
  unfold isinD
  have : anyTy T μ (.int i) ts = some (ts.any (isK .int)) := by
    induction ts with
    | nil => rfl
    | cons t r ih =>
      simp only [anyTy, isTy, kindD, List.any_cons]
      cases h : isK .int t <;> simp [ih]
  rw [this]
@[simp] theorem isinD_bl {i : Bool} {ts : List Ty} : isinD T (.bl i) ts μ = .ok (.bl (ts.any (isK .bl))) μ := by
  unfold isinD
  have : anyTy T μ (.bl i) ts = some (ts.any (isK .bl)) := by
    induction ts with
    | nil => rfl
    | cons t r ih =>
      simp only [anyTy, isTy, kindD, List.any_cons]
      cases h : isK .bl t <;> simp [ih]
  rw [this]
@[simp] theorem isinD_str {i : Str} {ts : List Ty} : isinD T (.str i) ts μ = .ok (.bl (ts.any (isK .str))) μ := by
  unfold isinD
  have : anyTy T μ (.str i) ts = some (ts.any (isK .str)) := by
    induction ts with
    | nil => rfl
    | cons t r ih =>
      simp only [anyTy, isTy, kindD, List.any_cons]
      cases h : isK .str t <;> simp [ih]
  rw [this]
@[simp] theorem isinD_non {ts : List Ty} : isinD T .non ts μ = .ok (.bl (ts.any (isK .non))) μ := by
  unfold isinD
  have : anyTy T μ .non ts = some (ts.any (isK .non)) := by
    induction ts with
    | nil => rfl
    | cons t r ih =>
      simp only [anyTy, isTy, kindD, List.any_cons]
      cases h : isK .non t <;> simp [ih]
  rw [this]
@[simp] theorem isinD_tup {xs : List D} {ts : List Ty} : isinD T (.tup xs) ts μ = .ok (.bl (ts.any (isK .tup))) μ := by
  unfold isinD
  have : anyTy T μ (.tup xs) ts = some (ts.any (isK .tup)) := by
    induction ts with
    | nil => rfl
    | cons t r ih =>
      simp only [anyTy, isTy, kindD, List.any_cons]
      cases h : isK .tup t <;> simp [ih]
  rw [this]
@[simp] theorem isinD_lst {xs : List D} {ts : List Ty} : isinD T (.lst xs) ts μ = .ok (.bl (ts.any (isK .lst))) μ := by
  unfold isinD
  have : anyTy T μ (.lst xs) ts = some (ts.any (isK .lst)) := by
    induction ts with
    | nil => rfl
    | cons t r ih =>
      simp only [anyTy, isTy, kindD, List.any_cons]
      cases h : isK .lst t <;> simp [ih]
  rw [this]
theorem isinD_ins {c : Nat} {C : Kl} {fs : List D} (h : T.cls[c]? = some C) (hx : C.exc = false) {ts : List Ty} : isinD T (.ins c fs) ts μ = .ok (.bl (ts.any (isC c))) μ := by
  unfold isinD
  have : anyTy T μ (.ins c fs) ts = some (ts.any (isC c)) := by
    induction ts with
    | nil => rfl
    | cons t r ih =>
      simp only [anyTy, isTy, kindD, insC, h, hx, List.any_cons]
      cases h : isC c t <;> simp [ih]
  rw [this]
@[simp] theorem isC_own {c d : Nat} : isC c (.own d) = decide (d = c) := nr rfl
@[simp] theorem isC_int {c : Nat} : isC c .int = false := nr rfl
@[simp] theorem isC_bool {c : Nat} : isC c .bool = false := nr rfl
@[simp] theorem isC_str {c : Nat} : isC c .str = false := nr rfl
@[simp] theorem isC_list {c : Nat} : isC c .list = false := nr rfl
@[simp] theorem isC_tuple {c : Nat} : isC c .tuple = false := nr rfl
@[simp] theorem isC_dict {c : Nat} : isC c .dict = false := nr rfl
@[simp] theorem isK_own {κ : Kd} {d : Nat} : isK κ (.own d) = false := nr rfl
@[simp] theorem isK_int {κ : Kd} : isK κ .int = (decide (κ = .int) || decide (κ = .bl)) := nr rfl
@[simp] theorem isK_bool {κ : Kd} : isK κ .bool = decide (κ = .bl) := nr rfl
@[simp] theorem isK_str {κ : Kd} : isK κ .str = decide (κ = .str) := nr rfl
@[simp] theorem isK_list {κ : Kd} : isK κ .list = decide (κ = .lst) := nr rfl
@[simp] theorem isK_tuple {κ : Kd} : isK κ .tuple = decide (κ = .tup) := nr rfl
@[simp] theorem isK_dict {κ : Kd} : isK κ .dict = false := nr rfl
/-- the end of C(..) -/
def makeC (fl : List Nat) (c : Nat) (μ : Mu) (o : Out D) : Out D := match o with
    | .ok .non μ' => (match μ'[μ.length]? with
      | some (.obj c' fs) => if c' = c ∧ fs.map (·.1) = fl ∧ (fs.all fun q => okD μ.length fzN q.2) = true then .ok (.ins c (fs.map (·.2))) μ else .stuck
      | _ => .stuck)
    | .ex x fs _ => if fs.all (okD μ.length fzN) then .ex x fs μ else .stuck
    | _ => .stuck
theorem makeC_congr {fl : List Nat} {c : Nat} {o o' : Out D} (h : o = o') : makeC fl c μ o = makeC fl c μ o' := by rw [h]
theorem finish_congr {md : Mode} {o o' : SOut} (h : o = o') : finish md μ o = finish md μ o' := by rw [h]
/-! ### frozen values -/
def fro : Nat → D → Bool
  | 0, _ => false
  | _ + 1, .cell _ => false
  | m + 1, .tup xs => xs.all (fro m)
  | m + 1, .lst xs => xs.all (fro m)
  | m + 1, .arg xs => xs.all (fro m)
  | m + 1, .ins _ xs => xs.all (fro m)
  | _ + 1, _ => true
@[simp] theorem fro_int {i : Int} : fro (m + 1) (.int i) = true := nr rfl
@[simp] theorem fro_bl {i : Bool} : fro (m + 1) (.bl i) = true := nr rfl
@[simp] theorem fro_str {i : Str} : fro (m + 1) (.str i) = true := nr rfl
@[simp] theorem fro_non : fro (m + 1) .non = true := nr rfl
@[simp] theorem fro_fn {i : Nat} : fro (m + 1) (.fn i) = true := nr rfl
@[simp] theorem fro_cls {i : Nat} : fro (m + 1) (.cls i) = true := nr rfl
@[simp] theorem fro_tup {xs : List D} : fro (m + 1) (.tup xs) = xs.all (fro m) := nr rfl
@[simp] theorem fro_lst {xs : List D} : fro (m + 1) (.lst xs) = xs.all (fro m) := nr rfl
@[simp] theorem fro_ins {c : Nat} {xs : List D} : fro (m + 1) (.ins c xs) = xs.all (fro m) := nr rfl
theorem mapM_id {f : D → Option D} : ∀ {xs : List D}, (∀ x ∈ xs, f x = some x) → xs.mapM f = some xs
  | [], _ => rfl
  | x :: r, h => by
    rw [List.mapM_cons, h x (by simp), mapM_id (xs := r) fun y hy => h y (by simp [hy])]
    rfl
theorem fz_fro {n₀ : Nat} : ∀ {m : Nat} {d : D}, fro m d = true → fz μ n₀ m d = some d
  | 0, _, h => by cases h
  | m + 1, d, h => by
    cases d <;> simp only [fz] <;> first | (cases h; done) | skip
    all_goals
      simp only [fro, List.all_eq_true] at h
      rw [mapM_id fun x hx => fz_fro (h x hx)]
      rfl
theorem okD_fro {n₀ : Nat} : ∀ {m : Nat} {d : D}, fro m d = true → okD n₀ m d = true
  | 0, _, h => by cases h
  | m + 1, d, h => by
    cases d <;> simp only [okD] <;> first | (cases h; done) | skip
    all_goals
      simp only [fro, List.all_eq_true] at h
      rw [List.all_eq_true]
      exact fun x hx => okD_fro (h x hx)
theorem fro_mono : ∀ {m : Nat} {d : D}, fro m d = true → fro (m + 1) d = true
  | 0, _, h => by cases h
  | m + 1, d, h => by
    cases d <;> simp only [fro] <;> first | (cases h; done) | skip
    all_goals
      simp only [fro, List.all_eq_true] at h
      rw [List.all_eq_true]
      exact fun x hx => fro_mono (h x hx)
theorem fro_le {m : Nat} {d : D} (h : fro m d = true) : ∀ {j : Nat}, m ≤ j → fro j d = true := fun {j} hj => by
  induction hj with
  | refl => exact h
  | step _ ih => exact fro_mono ih
/-! ### the end of a call -/
@[simp] theorem fin_ret {d : D} {μ' : Mu} (h : fro fzN d = true) : finish .pure μ (.ret d μ') = .ok d μ := by
  simp only [finish, fz_fro h]
@[simp] theorem fin_int {i : Int} {μ' : Mu} : finish .pure μ (.ret (.int i) μ') = .ok (.int i) μ := nr rfl
@[simp] theorem fin_bl {i : Bool} {μ' : Mu} : finish .pure μ (.ret (.bl i) μ') = .ok (.bl i) μ := nr rfl
@[simp] theorem fin_str {i : Str} {μ' : Mu} : finish .pure μ (.ret (.str i) μ') = .ok (.str i) μ := nr rfl
@[simp] theorem fin_non {μ' : Mu} : finish .pure μ (.ret .non μ') = .ok .non μ := nr rfl
@[simp] theorem fin_next {env : En} {μ' : Mu} : finish .pure μ (.next env μ') = .ok .non μ := nr rfl
@[simp] theorem fin_kret {d : D} {μ' : Mu} : finish .keep μ (.ret d μ') = .ok d μ' := nr rfl
@[simp] theorem fin_knext {env : En} {μ' : Mu} : finish .keep μ (.next env μ') = .ok .non μ' := nr rfl
@[simp] theorem fin_kex {c : Nat} {fs : List D} {env : En} {μ' : Mu} : finish .keep μ (.ex c fs env μ') = .ex c fs μ' := nr rfl
@[simp] theorem fin_ex0 {c : Nat} {env : En} {μ' : Mu} : finish .pure μ (.ex c [] env μ') = .ex c [] μ := nr rfl
theorem fin_ite {p : Prop} [Decidable p] {md : Mode} {a b : SOut} : finish md μ (if p then a else b) = if p then finish md μ a else finish md μ b := by split <;> rfl
/-! ### cells -/
@[simp] theorem get_app0 {l : Mu} : (μ ++ l)[μ.length]? = l[0]? := by
  rw [List.getElem?_append_right (Nat.le_refl _), Nat.sub_self]
@[simp] theorem get_app {l : Mu} {i : Nat} : (μ ++ l)[μ.length + i]? = l[i]? := by
  rw [List.getElem?_append_right (Nat.le_add_right _ _), Nat.add_sub_cancel_left]
@[simp] theorem set_app0 {l : Mu} {c : Cel} : (μ ++ l).set μ.length c = μ ++ l.set 0 c := by
  rw [List.set_append_right _ _ (Nat.le_refl _), Nat.sub_self]
@[simp] theorem set_app {l : Mu} {c : Cel} {i : Nat} : (μ ++ l).set (μ.length + i) c = μ ++ l.set i c := by
  rw [List.set_append_right _ _ (Nat.le_add_right _ _), Nat.add_sub_cancel_left]

/-! ### built-in functions -/
@[simp] theorem bodyN_eq : bodyN = 60 := nr rfl
@[simp] theorem prD_gcd {c : Bool} {i j : Int} : prD T cl lo c .gcd [.int i, .int j] μ = .ok (.int (Int.gcd i j)) μ := nr rfl
@[simp] theorem prD_abs {c : Bool} {i : Int} : prD T cl lo c .abs [.int i] μ = .ok (.int (if i < 0 then -i else i)) μ := nr rfl
@[simp] theorem prD_int {c : Bool} {i : Int} : prD T cl lo c .int [.int i] μ = .ok (.int i) μ := nr rfl
@[simp] theorem prD_intB {c : Bool} {b : Bool} : prD T cl lo c .int [.bl b] μ = .ok (.int (if b then 1 else 0)) μ := nr rfl
@[simp] theorem prD_len_tup {c : Bool} {xs : List D} : prD T cl lo c .len [.tup xs] μ = .ok (.int xs.length) μ := nr rfl
@[simp] theorem prD_len_lst {c : Bool} {xs : List D} : prD T cl lo c .len [.lst xs] μ = .ok (.int xs.length) μ := nr rfl
@[simp] theorem prD_len_arg {c : Bool} {xs : List D} : prD T cl lo c .len [.arg xs] μ = .ok (.int xs.length) μ := nr rfl
theorem prD_tuple {c : Bool} {d : D} {xs : List D} (h : items μ d = some xs) (hl : xs.length ≤ big) : prD T cl lo c .tuple [d] μ = .ok (.tup xs) μ := by
  simp only [prD, h, newT]
  rw [if_neg (Nat.not_lt.mpr hl)]
theorem newL_ok {xs : List D} (hl : xs.length ≤ big) : newL false xs μ = .ok (.lst xs) μ := by
  simp only [newL]
  rw [if_neg (Nat.not_lt.mpr hl)]
  rfl
theorem newL_okc {xs : List D} (hl : xs.length ≤ big) : newL true xs μ = .ok (.cell μ.length) (μ ++ [.lst xs]) := by
  simp only [newL]
  rw [if_neg (Nat.not_lt.mpr hl)]
  rfl
theorem newT_ok {xs : List D} (hl : xs.length ≤ big) : newT xs μ = .ok (.tup xs) μ := by
  simp only [newT]
  rw [if_neg (Nat.not_lt.mpr hl)]
@[simp] theorem items_tup {xs : List D} : items μ (.tup xs) = some xs := nr rfl
@[simp] theorem items_lst {xs : List D} : items μ (.lst xs) = some xs := nr rfl
@[simp] theorem items_arg {xs : List D} : items μ (.arg xs) = some xs := nr rfl
theorem items_cell {k : Nat} {xs : List D} (h : μ[k]? = some (.lst xs)) : items μ (.cell k) = some xs := by simp [items, h]
@[simp] theorem isList_lst {xs : List D} : isList μ (.lst xs) = some xs := nr rfl
theorem isList_cell {k : Nat} {xs : List D} (h : μ[k]? = some (.lst xs)) : isList μ (.cell k) = some xs := by simp [isList, h]
@[simp] theorem newT_nil : newT [] μ = .ok (.tup []) μ := nr rfl
@[simp] theorem newL_nil : newL false [] μ = .ok (.lst []) μ := nr rfl
@[simp] theorem newL_nilc : newL true [] μ = .ok (.cell μ.length) (μ ++ [.lst []]) := nr rfl
@[simp] theorem newL_1 {a : D} : newL false [a] μ = .ok (.lst [a]) μ := nr rfl
@[simp] theorem newL_2 {a b : D} : newL false [a, b] μ = .ok (.lst [a, b]) μ := nr rfl
@[simp] theorem newL_2c {a b : D} : newL true [a, b] μ = .ok (.cell μ.length) (μ ++ [.lst [a, b]]) := nr rfl
@[simp] theorem newL_3 {a b c : D} : newL false [a, b, c] μ = .ok (.lst [a, b, c]) μ := nr rfl
@[simp] theorem newL_4 {a b c d : D} : newL false [a, b, c, d] μ = .ok (.lst [a, b, c, d]) μ := nr rfl
@[simp] theorem newL_6 {a b c d e f : D} : newL false [a, b, c, d, e, f] μ = .ok (.lst [a, b, c, d, e, f]) μ := nr rfl
@[simp] theorem newT_1 {a : D} : newT [a] μ = .ok (.tup [a]) μ := nr rfl
@[simp] theorem newT_2 {a b : D} : newT [a, b] μ = .ok (.tup [a, b]) μ := nr rfl
@[simp] theorem newT_3 {a b c : D} : newT [a, b, c] μ = .ok (.tup [a, b, c]) μ := nr rfl
theorem allEq_self {f : D → D → Option Bool} : ∀ {xs : List D}, (∀ x ∈ xs, f x x = some true) → allEq f xs xs = some true
  | [], _ => rfl
  | x :: r, h => by
    simp only [allEq, h x (by simp)]
    exact allEq_self fun y hy => h y (by simp [hy])
theorem inL_ints {i : Int} : ∀ {xs : List Int}, inL (eqv T cl μ (n + 1)) (.int i) (xs.map .int) = some (decide (i ∈ xs))
  | [] => by simp [inL]
  | x :: r => by
    simp only [List.map_cons, inL, eqv_int]
    by_cases h : x = i
    · subst h; simp
    · have h' : ¬ i = x := fun e => h e.symm
      simp [h, h', inL_ints (xs := r)]
theorem okR_of {i : Int} (h : -1000000000 ≤ i) (h2 : i ≤ 1000000000) : okR i = true := by
  unfold okR rangeLine
  simp only [Bool.and_eq_true, decide_eq_true_eq]
  omega
@[simp] theorem rangeD_1 {j : Int} (h : okR j = true) : rangeD [.int j] = some (countUp 0 1 j.toNat) := by simp only [rangeD, h, if_true]
theorem okR_nat {i : Nat} (h : i ≤ 1000000000) : okR (i : Int) = true := okR_of (by omega) (by omega)
@[simp] theorem okR_lit0 : okR 0 = true := nr rfl
@[simp] theorem okR_lit1 : okR 1 = true := nr rfl
@[simp] theorem okR_lit2 : okR 2 = true := nr rfl
@[simp] theorem okR_lit3 : okR 3 = true := nr rfl
@[simp] theorem okR_lit4 : okR 4 = true := nr rfl
@[simp] theorem okR_lit5 : okR 5 = true := nr rfl
@[simp] theorem okR_lit6 : okR 6 = true := nr rfl
@[simp] theorem okR_lit7 : okR 7 = true := nr rfl
@[simp] theorem okR_lit8 : okR 8 = true := nr rfl
@[simp] theorem okR_lit9 : okR 9 = true := nr rfl
@[simp] theorem okR_lit10 : okR 10 = true := nr rfl
@[simp] theorem okR_lit11 : okR 11 = true := nr rfl
@[simp] theorem okR_lit12 : okR 12 = true := nr rfl
@[simp] theorem okR_lit13 : okR 13 = true := nr rfl
@[simp] theorem okR_lit14 : okR 14 = true := nr rfl
@[simp] theorem okR_lit15 : okR 15 = true := nr rfl
@[simp] theorem okR_lit16 : okR 16 = true := nr rfl
@[simp] theorem okR_lit17 : okR 17 = true := nr rfl
@[simp] theorem okR_lit18 : okR 18 = true := nr rfl
@[simp] theorem okR_lit19 : okR 19 = true := nr rfl
@[simp] theorem okR_lit20 : okR 20 = true := nr rfl
@[simp] theorem okR_lit21 : okR 21 = true := nr rfl
@[simp] theorem okR_lit22 : okR 22 = true := nr rfl
@[simp] theorem okR_lit23 : okR 23 = true := nr rfl
@[simp] theorem okR_lit24 : okR 24 = true := nr rfl
@[simp] theorem okR_lit25 : okR 25 = true := nr rfl
@[simp] theorem okR_lit26 : okR 26 = true := nr rfl
@[simp] theorem okR_lit27 : okR 27 = true := nr rfl
@[simp] theorem okR_lit28 : okR 28 = true := nr rfl
@[simp] theorem okR_lit29 : okR 29 = true := nr rfl
@[simp] theorem okR_lit30 : okR 30 = true := nr rfl
@[simp] theorem okR_lit31 : okR 31 = true := nr rfl
@[simp] theorem okR_lit32 : okR 32 = true := nr rfl
@[simp] theorem okR_lit63 : okR 63 = true := nr rfl
@[simp] theorem okR_lit64 : okR 64 = true := nr rfl
@[simp] theorem okR_lit300 : okR 300 = true := nr rfl
@[simp] theorem okR_litm1 : okR (-1) = true := nr rfl
@[simp] theorem rangeD_2 {i j : Int} (h1 : okR i = true) (h2 : okR j = true) : rangeD [.int i, .int j] = some (countUp i 1 (j - i).toNat) := by simp only [rangeD, h1, h2, Bool.and_self, if_true]
theorem countUp_length {c : Int} : ∀ {j : Nat} {lo : Int}, (countUp lo c j).length = j
  | 0, _ => rfl
  | j + 1, lo => by simp [countUp, countUp_length]
theorem countUp_map {j : Nat} {lo : Int} : countUp lo 1 j = (List.range j).map fun i : Nat => .int (lo + i) := by
  induction j generalizing lo with
  | zero => rfl
  | succ j ih =>
    rw [countUp, ih, List.range_succ_eq_map]
    simp only [List.map_cons, List.map_map]
    congr 1
    · simp
    · apply List.map_congr_left
      intro i _
      simp only [Function.comp, Nat.succ_eq_add_one]
      congr 1
      push_cast
      omega
theorem countUp_mem {j : Nat} {lo : Int} {d : D} (h : d ∈ countUp lo 1 j) : ∃ i : Nat, i < j ∧ d = .int (lo + i) := by
  rw [countUp_map] at h
  simp only [List.mem_map, List.mem_range] at h
  obtain ⟨i, h1, h2⟩ := h
  exact ⟨i, h1, h2.symm⟩

@[simp] theorem putN_nil {α : Type} {x : Nat} {v : α} : putN x v [] = [(x, v)] := nr rfl
@[simp] theorem putN_cons {α : Type} {x y : Nat} {v a : α} {r : List (Nat × α)} : putN x v ((y, a) :: r) = if y = x then (y, v) :: r else (y, a) :: putN x v r := nr rfl
@[simp] theorem lookN_nil {α : Type} {x : Nat} : lookN x ([] : List (Nat × α)) = none := nr rfl
@[simp] theorem lookN_cons {α : Type} {x y : Nat} {a : α} {r : List (Nat × α)} : lookN x ((y, a) :: r) = if x = y then some a else lookN x r := nr rfl
@[simp] theorem fzN_eq : fzN = 12 := nr rfl
@[simp] theorem okD_int {n₀ : Nat} {i : Int} : okD n₀ (m + 1) (.int i) = true := nr rfl
@[simp] theorem okD_bl {n₀ : Nat} {i : Bool} : okD n₀ (m + 1) (.bl i) = true := nr rfl
@[simp] theorem okD_str {n₀ : Nat} {i : Str} : okD n₀ (m + 1) (.str i) = true := nr rfl
@[simp] theorem okD_non {n₀ : Nat} : okD n₀ (m + 1) .non = true := nr rfl
@[simp] theorem okD_tup {n₀ : Nat} {xs : List D} : okD n₀ (m + 1) (.tup xs) = xs.all (okD n₀ m) := nr rfl
@[simp] theorem okD_lst {n₀ : Nat} {xs : List D} : okD n₀ (m + 1) (.lst xs) = xs.all (okD n₀ m) := nr rfl
@[simp] theorem okD_ins {n₀ c : Nat} {xs : List D} : okD n₀ (m + 1) (.ins c xs) = xs.all (okD n₀ m) := nr rfl
theorem all_of_eq {α : Type} {p : α → Bool} {xs : List α} (h : ∀ x ∈ xs, p x = true) : xs.all p = true := List.all_eq_true.mpr h

/-- a loop, its environments told -/
theorem forL_from {tg : Tg} {g : Chk} {b : En → Mu → SOut} (E : Nat → Option D → En) (M : Nat → Mu) : ∀ {xs : List D} {j : Nat} (s : Option D)
    (_ : ∀ i, i ≤ xs.length → chkG g (M (j + i)) = true)
    (_ : ∀ i x s, xs[i]? = some x → setTg tgN tg x (E (j + i) s) = some (E (j + i) (some x)) ∧ (b (E (j + i) (some x)) (M (j + i)) = .next (E (j + i + 1) (some x)) (M (j + i + 1)) ∨ b (E (j + i) (some x)) (M (j + i)) = .cnt (E (j + i + 1) (some x)) (M (j + i + 1)))),
    ∃ s', forL tg g b xs (E j s) (M j) = .next (E (j + xs.length) s') (M (j + xs.length))
  | [], j, s, hg, _ => ⟨s, by
    have := hg 0 (Nat.le_refl _)
    simp only [Nat.add_zero] at this
    simp [forL, this]⟩
  | x :: r, j, s, hg, h => by
    have g0 := hg 0 (Nat.zero_le _)
    simp only [Nat.add_zero] at g0
    obtain ⟨h1, h2⟩ := h 0 x s rfl
    simp only [Nat.add_zero] at h1 h2
    obtain ⟨s', k⟩ := forL_from (xs := r) (j := j + 1) E M (some x) (fun i hi => by
      have := hg (i + 1) (by simpa using hi)
      rw [show j + 1 + i = j + (i + 1) by omega]
      exact this) (fun i y s hy => by
      have := h (i + 1) y s (by simpa using hy)
      rw [show j + 1 + i = j + (i + 1) by omega]
      exact this)
    refine ⟨s', ?_⟩
    rw [show j + (x :: r).length = j + 1 + r.length by simp; omega]
    rcases h2 with h2 | h2 <;> simp only [forL, g0, if_true, h1, h2, k]
theorem forL_run {tg : Tg} {g : Chk} {b : En → Mu → SOut} (E : Nat → Option D → En) (M : Nat → Mu) {xs : List D} (s : Option D)
    (hg : ∀ i, i ≤ xs.length → chkG g (M i) = true)
    (h : ∀ i x s, xs[i]? = some x → setTg tgN tg x (E i s) = some (E i (some x)) ∧ (b (E i (some x)) (M i) = .next (E (i + 1) (some x)) (M (i + 1)) ∨ b (E i (some x)) (M i) = .cnt (E (i + 1) (some x)) (M (i + 1)))) :
    ∃ s', forL tg g b xs (E 0 s) (M 0) = .next (E xs.length s') (M xs.length) := by
  obtain ⟨s', k⟩ := forL_from (j := 0) (xs := xs) E M s (fun i hi => by rw [Nat.zero_add]; exact hg i hi) (fun i x s hx => by rw [Nat.zero_add]; exact h i x s hx)
  exact ⟨s', by rw [k, Nat.zero_add]⟩
/-- a loop that is left by a return -/
theorem forL_ret {tg : Tg} {b : En → Mu → SOut} (E : Option D → En) {d : D} {μ' : Mu} {y : D} {post : List D} : ∀ {pre : List D} (s : Option D)
    (_ : ∀ x ∈ pre, ∀ s, setTg tgN tg x (E s) = some (E (some x)) ∧ b (E (some x)) μ = .next (E (some x)) μ)
    (_ : ∀ s, setTg tgN tg y (E s) = some (E (some y)) ∧ b (E (some y)) μ = .ret d μ'),
    forL tg [] b (pre ++ y :: post) (E s) μ = .ret d μ'
  | [], s, _, h => by
    obtain ⟨h1, h2⟩ := h s
    simp only [List.nil_append, forL, chkG_nil, if_true, h1, h2]
  | x :: r, s, hp, h => by
    obtain ⟨h1, h2⟩ := hp x (by simp) s
    simp only [List.cons_append, forL, chkG_nil, if_true, h1, h2]
    exact forL_ret E (some x) (fun z hz => hp z (by simp [hz])) h

theorem compL_congr {env env' : En} {tg : Tg} {g : Chk} {cond : En → Mu → Out Bool} {elt : En → Mu → Out (List D)} {xs xs' : List D} {μ μ' : Mu} (h1 : env = env') (h2 : xs = xs') (h3 : μ = μ') : compL env tg g cond elt xs μ = compL env' tg g cond elt xs' μ' := by rw [h1, h2, h3]
theorem forL_congr {env env' : En} {tg : Tg} {g : Chk} {b : En → Mu → SOut} {xs xs' : List D} {μ μ' : Mu} (h1 : env = env') (h2 : xs = xs') (h3 : μ = μ') : forL tg g b xs env μ = forL tg g b xs' env' μ' := by rw [h1, h2, h3]
theorem whlL_congr {env env' : En} {c : En → Mu → Out Bool} {b : En → Mu → SOut} {m : Nat} {μ μ' : Mu} (h1 : env = env') (h3 : μ = μ') : whlL c b m env μ = whlL c b m env' μ' := by rw [h1, h3]
theorem isList_cell' {k : Nat} : isList μ (.cell k) = (match μ[k]? with
    | some (.lst xs) => some xs
    | _ => none) := nr rfl
theorem items_cell' {k : Nat} : items μ (.cell k) = (match μ[k]? with
    | some (.lst xs) => some xs
    | _ => none) := nr rfl
theorem guard_cell' {k : Nat} : guard μ (.cell k) = (match μ[k]? with
    | some (.lst xs) => some (xs, [(k, xs)])
    | _ => none) := nr rfl
theorem wrL_cell' {k : Nat} {f : List D → Option (List D)} : wrL lo (.cell k) μ f = if lo ≤ k then (match μ[k]? with
    | some (.lst xs) => (match f xs with
      | some ys => some (μ.set k (.lst ys))
      | none => none)
    | _ => none) else none := nr rfl
theorem prD_append {c : Bool} {k : Nat} {x : D} {xs : List D} (h : μ[k]? = some (.lst xs)) (hk : lo ≤ k) (hl : xs.length < 16777216) : prD T cl lo c .append [.cell k, x] μ = .ok .non (μ.set k (.lst (xs ++ [x]))) := by
  have hb : xs.length < big := hl
  simp only [prD, wrL, hk, h, hb, if_true]
@[simp] theorem prD_append0 {c : Bool} {x : D} {xs : List D} {l : Mu} (hl : xs.length < 16777216) : prD T cl μ.length c .append [.cell μ.length, x] (μ ++ .lst xs :: l) = .ok .non (μ ++ .lst (xs ++ [x]) :: l) := by
  rw [prD_append (xs := xs) (by simp) (Nat.le_refl _) hl]
  simp
@[simp] theorem prD_append1 {c : Bool} {x : D} {xs : List D} {a : Cel} {l : Mu} (hl : xs.length < 16777216) : prD T cl μ.length c .append [.cell (μ.length + 1), x] (μ ++ a :: .lst xs :: l) = .ok .non (μ ++ a :: .lst (xs ++ [x]) :: l) := by
  rw [prD_append (xs := xs) (by simp) (Nat.le_add_right _ _) hl]
  simp
@[simp] theorem prD_tuple_lst {c : Bool} {xs : List D} : prD T cl lo c .tuple [.lst xs] μ = newT xs μ := nr rfl
@[simp] theorem prD_tuple_tup {c : Bool} {xs : List D} : prD T cl lo c .tuple [.tup xs] μ = newT xs μ := nr rfl
@[simp] theorem prD_tuple_cell {c : Bool} {k : Nat} : prD T cl lo c .tuple [.cell k] μ = (match μ[k]? with
    | some (.lst xs) => newT xs μ
    | _ => .stuck) := by
  simp only [prD, items]
  cases μ[k]? with
  | none => rfl
  | some c => cases c <;> rfl
@[simp] theorem prD_list_lst {c : Bool} {xs : List D} : prD T cl lo c .list [.lst xs] μ = newL c xs μ := nr rfl
@[simp] theorem prD_list_tup {c : Bool} {xs : List D} : prD T cl lo c .list [.tup xs] μ = newL c xs μ := nr rfl
@[simp] theorem prD_list_cell {c : Bool} {k : Nat} : prD T cl lo c .list [.cell k] μ = (match μ[k]? with
    | some (.lst xs) => newL c xs μ
    | _ => .stuck) := by
  simp only [prD, items]
  cases μ[k]? with
  | none => rfl
  | some c => cases c <;> rfl
@[simp] theorem prD_len_cell {c : Bool} {k : Nat} : prD T cl lo c .len [.cell k] μ = (match μ[k]? with
    | some (.lst xs) => .ok (.int xs.length) μ
    | _ => .stuck) := by
  simp only [prD, items]
  cases μ[k]? with
  | none => rfl
  | some c => cases c <;> rfl
@[simp] theorem prD_sum' {c : Bool} {d : D} : prD T cl lo c .sum [d] μ = (match isList μ d with
    | some xs => (match allInts xs with
      | some ns => .ok (.int ns.sum) μ
      | none => .stuck)
    | none => .stuck) := nr rfl
@[simp] theorem prD_all' {c : Bool} {d : D} : prD T cl lo c .all [d] μ = (match isList μ d with
    | some xs => (match allBls xs with
      | some bs => .ok (.bl (bs.all id)) μ
      | none => .stuck)
    | none => .stuck) := nr rfl
@[simp] theorem prD_any' {c : Bool} {d : D} : prD T cl lo c .any [d] μ = (match isList μ d with
    | some xs => (match allBls xs with
      | some bs => .ok (.bl (bs.any id)) μ
      | none => .stuck)
    | none => .stuck) := nr rfl
@[simp] theorem bmD_lst {c : Bool} {p : Pr} {xs : List D} {args : Mu → Out (List D)} : bmD T cl lo c p (.lst xs) args μ = (args μ).bind fun ds μ => prD T cl lo c p (.lst xs :: ds) μ := nr rfl
@[simp] theorem bmD_cell {c : Bool} {p : Pr} {k : Nat} {args : Mu → Out (List D)} : bmD T cl lo c p (.cell k) args μ = (match μ[k]? with
    | some (.lst _) => (args μ).bind fun ds μ => prD T cl lo c p (.cell k :: ds) μ
    | _ => .stuck) := by
  simp only [bmD, isList]
  cases μ[k]? with
  | none => rfl
  | some c => cases c <;> rfl
/-- an item is set, told by the cell -/
@[simp] theorem subS_int {k : Nat} {i : Int} {d : D} : subS lo (.cell k) (.int i) d env μ = if lo ≤ k then (match μ[k]? with
    | some (.lst xs) => (match ixOf xs.length i with
      | some j => .next env (μ.set k (.lst (xs.set j d)))
      | none => .stuck)
    | _ => .stuck) else .stuck := by
  simp only [subS, wrL]
  by_cases hk : lo ≤ k
  · simp only [if_pos hk]
    cases μ[k]? with
    | none => rfl
    | some c =>
      cases c with
      | lst xs =>
        cases h : ixOf xs.length i <;> simp only [h, Option.map_some, Option.map_none]
      | obj c fs => rfl
  · simp only [if_neg hk]
@[simp] theorem attrS_cell' {k f : Nat} {d : D} : attrS T lo (.cell k) f d env μ = if lo ≤ k then (match μ[k]? with
        | some (.obj c fs) => (match T.cls[c]? with
          | some C => if fs.length < 900 ∧ C.exc = false ∧ C.flds.contains f = true ∧ (fs.all fun q => C.flds.contains q.1) = true then .next env (μ.set k (.obj c (putN f d fs))) else .stuck
          | none => .stuck)
        | _ => .stuck) else .stuck := nr rfl
@[simp] theorem itemD_cell {k : Nat} {i : Int} : itemD (.cell k) (.int i) μ = (match μ[k]? with
    | some (.lst xs) => itemD (.lst xs) (.int i) μ
    | _ => .stuck) := by
  simp only [itemD, atD, items]
  cases μ[k]? with
  | none => rfl
  | some c => cases c <;> rfl
@[simp] theorem big_eq : big = 16777216 := nr rfl
@[simp] theorem wipe_nil {env : En} : wipe env [] = env := nr rfl
@[simp] theorem wipe_cons {env : En} {v : Nat} {vs : List Nat} : wipe env (v :: vs) = (wipe env vs).set v none := nr rfl
theorem allBls_map {α : Type} {f : α → Bool} : ∀ {xs : List α}, allBls (xs.map fun x => .bl (f x)) = some (xs.map f)
  | [] => rfl
  | x :: r => by simp [allBls, allBls_map (xs := r)]
theorem allInts_map {α : Type} {f : α → Int} : ∀ {xs : List α}, allInts (xs.map fun x => .int (f x)) = some (xs.map f)
  | [] => rfl
  | x :: r => by simp [allInts, allInts_map (xs := r)]

/-! ### comprehensions and loops, their parts as data -/
theorem compE_map (f : D → D) {tg : Tg} {g : Chk} {elt : IE} {xs : List D} (hg : chkG g μ = true) (h : ∀ x ∈ xs, ∃ e, setTg tgN tg x env = some e ∧ evE T cl lo n e elt μ = .ok (f x) μ) :
    compE T cl lo n tg g none elt env xs μ = .ok (xs.map f) μ := by
  unfold compE
  rw [compL_map f hg fun x hx => by
    obtain ⟨e, h1, h2⟩ := h x hx
    exact ⟨e, h1, rfl, by rw [h2]; rfl⟩]
  rfl
theorem compE_name (f : D → D) {i : Nat} {elt : IE} {xs : List D} (hi : i < env.length) (h : ∀ x ∈ xs, evE T cl lo n (env.set i (some x)) elt μ = .ok (f x) μ) :
    compE T cl lo n (.name i) [] none elt env xs μ = .ok (xs.map f) μ :=
  compE_map f rfl fun x hx => ⟨_, by rw [setTg_name, if_pos hi], h x hx⟩
theorem compE_filter (p : D → Bool) (f : D → D) {tg : Tg} {g : Chk} {t elt : IE} {xs : List D} (hg : chkG g μ = true) (h : ∀ x ∈ xs, ∃ e, setTg tgN tg x env = some e ∧ tru (evE T cl lo n e t μ) = .ok (p x) μ ∧ (p x = true → evE T cl lo n e elt μ = .ok (f x) μ)) :
    compE T cl lo n tg g (some t) elt env xs μ = .ok ((xs.filter p).map f) μ := by
  unfold compE
  rw [compL_filter p f hg fun x hx => by
    obtain ⟨e, h1, h2, h3⟩ := h x hx
    exact ⟨e, h1, h2, fun hp => by rw [h3 hp]; rfl⟩]
  rfl
theorem compE_ex (I : Mu → Prop) (P : D → Prop) {tg : Tg} {g : Chk} {elt : IE} {xs : List D} (hg : ∀ μ, I μ → chkG g μ = true)
    (h : ∀ x ∈ xs, ∀ μ, I μ → ∃ e, setTg tgN tg x env = some e ∧ ∃ y μ', evE T cl lo n e elt μ = .ok y μ' ∧ I μ' ∧ P y) {μ : Mu} (hI : I μ) : ∃ ys μ', compE T cl lo n tg g none elt env xs μ = .ok ys μ' ∧ I μ' ∧ ys.length = xs.length ∧ ∀ y ∈ ys, P y := by
  obtain ⟨ys, μ', h1, h2⟩ := compL_ex (cond := condE (evE T cl lo n) none) (elt := fun e μ => one (evE T cl lo n e elt μ)) (env := env) I P hg (xs := xs) (fun x hx μ hμ => by
    obtain ⟨e, h1, y, μ', h2, h3⟩ := h x hx μ hμ
    exact ⟨e, h1, rfl, y, μ', by rw [h2]; rfl, h3⟩) hI
  exact ⟨ys, μ', by unfold compE; rw [h1]; rfl, h2⟩
theorem forE_run {tg : Tg} {g : Chk} {b : List IS} (E : Nat → Option D → En) (M : Nat → Mu) {xs : List D} (s : Option D)
    (hg : ∀ i, i ≤ xs.length → chkG g (M i) = true)
    (h : ∀ i x s, xs[i]? = some x → setTg tgN tg x (E i s) = some (E i (some x)) ∧ (exL (exS T cl lo n) b (E i (some x)) (M i) = .next (E (i + 1) (some x)) (M (i + 1)) ∨ exL (exS T cl lo n) b (E i (some x)) (M i) = .cnt (E (i + 1) (some x)) (M (i + 1)))) :
    ∃ s', forE T cl lo n tg g b xs (E 0 s) (M 0) = .next (E xs.length s') (M xs.length) := forL_run E M s hg h
theorem forE_ex {tg : Tg} {g : Chk} {b : List IS} (I : List D → En → Mu → Prop) (hg : ∀ r e μ, I r e μ → chkG g μ = true)
    (h : ∀ x r e μ, I (x :: r) e μ → ∃ e1, setTg tgN tg x e = some e1 ∧ ∃ e2 μ2, (exL (exS T cl lo n) b e1 μ = .next e2 μ2 ∨ exL (exS T cl lo n) b e1 μ = .cnt e2 μ2) ∧ I r e2 μ2) {xs : List D} {env : En} {μ : Mu} (hI : I xs env μ) : ∃ e' μ', forE T cl lo n tg g b xs env μ = .next e' μ' ∧ I [] e' μ' := forL_ex I hg h hI
theorem forE_ret {tg : Tg} {b : List IS} (E : Option D → En) {d : D} {μ' : Mu} {y : D} {pre post : List D} (s : Option D)
    (h : ∀ x ∈ pre, ∀ s, setTg tgN tg x (E s) = some (E (some x)) ∧ exL (exS T cl lo n) b (E (some x)) μ = .next (E (some x)) μ)
    (h2 : ∀ s, setTg tgN tg y (E s) = some (E (some y)) ∧ exL (exS T cl lo n) b (E (some y)) μ = .ret d μ') :
    forE T cl lo n tg [] b (pre ++ y :: post) (E s) μ = .ret d μ' := forL_ret E s h h2

/-- a method by its class's list -/
def methC (ms : List (Nat × Nat)) (T : Tab) (cl : Cll) (lo m : Nat) (x : D) (args : Mu → Out (List D)) (μ : Mu) : Out D := match lookN m ms with
      | some f => (args μ).bind fun ds μ => callF T cl lo f (x :: ds) μ
      | none => .stuck
theorem methC_def {ms : List (Nat × Nat)} {x : D} {args : Mu → Out (List D)} {f : Nat} (h : lookN m ms = some f) : methC ms T cl lo m x args μ = (args μ).bind fun ds μ => callF T cl lo f (x :: ds) μ := by simp only [methC, h]
@[simp] theorem methC_cons {ms : List (Nat × Nat)} {x : D} {args : Mu → Out (List D)} {a f : Nat} : methC ((a, f) :: ms) T cl lo m x args μ = if m = a then (args μ).bind fun ds μ => callF T cl lo f (x :: ds) μ else methC ms T cl lo m x args μ := by
  by_cases h : m = a <;> simp [methC, h]

@[simp] theorem binD_lst_add {xs ys : List D} (h : (xs ++ ys).length ≤ 16777216) : binD T cl lo false .add (.lst xs) (.lst ys) μ = .ok (.lst (xs ++ ys)) μ := by
  show newL false (xs ++ ys) μ = _
  exact newL_ok h
@[simp] theorem binD_tup_add {c : Bool} {xs ys : List D} (h : (xs ++ ys).length ≤ 16777216) : binD T cl lo c .add (.tup xs) (.tup ys) μ = .ok (.tup (xs ++ ys)) μ := by
  show newT (xs ++ ys) μ = _
  exact newT_ok h
theorem itemD_lst {xs : List D} {j : Nat} {d : D} (h : xs[j]? = some d) : itemD (.lst xs) (.int j) μ = .ok d μ := by
  have hl : j < xs.length := (List.getElem?_eq_some_iff.mp h).1
  have h1 : (0 : Int) ≤ j := by omega
  have h2 : (j : Int) < xs.length := by omega
  simp only [itemD, atD, items, ixOf, h1, h2, if_true, Int.toNat_natCast, h]
theorem itemD_tup {xs : List D} {j : Nat} {d : D} (h : xs[j]? = some d) : itemD (.tup xs) (.int j) μ = .ok d μ := by
  have hl : j < xs.length := (List.getElem?_eq_some_iff.mp h).1
  have h1 : (0 : Int) ≤ j := by omega
  have h2 : (j : Int) < xs.length := by omega
  simp only [itemD, atD, items, ixOf, h1, h2, if_true, Int.toNat_natCast, h]
@[simp] theorem item_l0 {a : D} {r : List D} : itemD (.lst (a :: r)) (.int 0) μ = .ok a μ := itemD_lst (j := 0) rfl
@[simp] theorem item_l1 {a b : D} {r : List D} : itemD (.lst (a :: b :: r)) (.int 1) μ = .ok b μ := itemD_lst (j := 1) rfl
@[simp] theorem item_l2 {a b c : D} {r : List D} : itemD (.lst (a :: b :: c :: r)) (.int 2) μ = .ok c μ := itemD_lst (j := 2) rfl
@[simp] theorem item_l3 {a b c d : D} {r : List D} : itemD (.lst (a :: b :: c :: d :: r)) (.int 3) μ = .ok d μ := itemD_lst (j := 3) rfl
@[simp] theorem item_t0 {a : D} {r : List D} : itemD (.tup (a :: r)) (.int 0) μ = .ok a μ := itemD_tup (j := 0) rfl
@[simp] theorem item_t1 {a b : D} {r : List D} : itemD (.tup (a :: b :: r)) (.int 1) μ = .ok b μ := itemD_tup (j := 1) rfl
@[simp] theorem item_t2 {a b c : D} {r : List D} : itemD (.tup (a :: b :: c :: r)) (.int 2) μ = .ok c μ := itemD_tup (j := 2) rfl
@[simp] theorem item_t3 {a b c d : D} {r : List D} : itemD (.tup (a :: b :: c :: d :: r)) (.int 3) μ = .ok d μ := itemD_tup (j := 3) rfl
/-- a comprehension over a written list -/
theorem compE_nil {tg : Tg} {g : Chk} {cond : Option IE} {elt : IE} : compE T cl lo n tg [] cond elt env [] μ = .ok [] μ := rfl

theorem compE_none {tg : Tg} {t elt : IE} {xs : List D} (h : ∀ x ∈ xs, ∃ e, setTg tgN tg x env = some e ∧ tru (evE T cl lo n e t μ) = .ok false μ) :
    compE T cl lo n tg [] (some t) elt env xs μ = .ok [] μ := by
  rw [compE_filter (fun _ => false) id rfl fun x hx => by
    obtain ⟨e, h1, h2⟩ := h x hx
    exact ⟨e, h1, h2, fun z => by cases z⟩]
  simp
end
end Pi

set_option Elab.async false
set_option linter.all false
set_option maxRecDepth 100000
set_option maxHeartbeats 4000000
namespace K67
open PySem PySem.Spec PyProof.Rows L2 Pi Sd
def mkc : List Nat := [4, 5, 6, 7]
def i0 : Di := ⟨["value"], ["value"], [], .pure, []⟩
def i1 : Di := ⟨["self", "n", "d", "shared"], ["self", "n", "d"], [], .keep, [.int 1]⟩
def i2 : Di := ⟨["self", "other"], ["self", "other"], [], .pure, []⟩
def i3 : Di := ⟨["self", "other"], ["self", "other"], [], .pure, []⟩
def i4 : Di := ⟨["self", "other"], ["self", "other"], [], .pure, []⟩
def i5 : Di := ⟨["self", "other"], ["self", "other"], [], .pure, []⟩
def i6 : Di := ⟨["self"], ["self"], [], .pure, []⟩
def i7 : Di := ⟨["self"], ["self"], [], .pure, []⟩
def i8 : Di := ⟨["self"], ["self"], [], .pure, []⟩
def i9 : Di := ⟨["self", "other"], ["self", "other"], [], .pure, []⟩
def i10 : Di := ⟨["value"], ["value"], [], .pure, []⟩
def i11 : Di := ⟨["self", "p", "n"], ["self", "p", "n"], [], .keep, []⟩
def i12 : Di := ⟨["self", "other"], ["self", "other"], [], .pure, []⟩
def i13 : Di := ⟨["self", "other"], ["self", "other"], [], .pure, []⟩
def i14 : Di := ⟨["self", "other"], ["self", "other"], [], .pure, []⟩
def i15 : Di := ⟨["self", "other"], ["self", "other"], [], .pure, []⟩
def i16 : Di := ⟨["self"], ["self"], [], .pure, []⟩
def i17 : Di := ⟨["self"], ["self"], [], .pure, []⟩
def i18 : Di := ⟨["self", "total", "_"], ["self"], [], .pure, []⟩
def i19 : Di := ⟨["self", "other"], ["self", "other"], [], .pure, []⟩
def i20 : Di := ⟨["self", "p"], ["self", "p"], [], .keep, [.int 0]⟩
def i21 : Di := ⟨["self", "other"], ["self", "other"], [], .pure, []⟩
def i22 : Di := ⟨["self", "n", "d"], ["self", "n", "d"], [], .pure, [.int 1]⟩
def i23 : Di := ⟨["self"], ["self"], [], .pure, []⟩
def i24 : Di := ⟨["self", "value"], ["self", "value"], [], .pure, []⟩
def i25 : Di := ⟨["ground", "item"], ["ground", "item"], [], .pure, []⟩
def i26 : Di := ⟨["ground", "rows", "found", "row", "item"], ["ground", "rows"], [(219, 12)], .pure, []⟩
def i27 : Di := ⟨["ground", "row", "rows", "width", "total", "c", "line", "x", "y"], ["ground", "row", "rows", "width"], [], .pure, []⟩
def i28 : Di := ⟨["self", "ground", "rows", "width", "own", "row"], ["self", "ground", "rows", "width"], [], .keep, [.non]⟩
def i29 : Di := ⟨["self"], ["self"], [], .pure, []⟩
def i30 : Di := ⟨["self", "other"], ["self", "other"], [], .pure, []⟩
def i31 : Di := ⟨["self", "other", "rows", "one", "two", "x", "y"], ["self", "other"], [(258, 15)], .pure, []⟩
def i32 : Di := ⟨["self", "row", "x"], ["self"], [], .pure, []⟩
def i33 : Di := ⟨["self", "other", "rows", "one", "two", "x", "y"], ["self", "other"], [(268, 15)], .pure, []⟩
def i34 : Di := ⟨["self", "other", "rows", "row"], ["self", "other"], [], .pure, []⟩
def i35 : Di := ⟨["self", "rows", "j", "row"], ["self"], [], .pure, []⟩
def i36 : Di := ⟨["self"], ["self"], [], .pure, []⟩
def i37 : Di := ⟨["self", "row", "x"], ["self"], [], .pure, []⟩
def i38 : Di := ⟨["self", "size", "one", "rows", "column", "places", "at", "head", "i", "x", "factor", "row", "y"], ["self"], [(320, 15)], .pure, []⟩
def i39 : Di := ⟨["a", "b"], ["a", "b"], [], .pure, []⟩
def i40 : Di := ⟨["a"], ["a"], [], .pure, []⟩
def i41 : Di := ⟨["ground", "n", "i", "j"], ["ground", "n"], [], .pure, []⟩
def i42 : Di := ⟨["ground", "height", "width", "_"], ["ground", "height", "width"], [], .pure, []⟩
def i43 : Di := ⟨["script", "seed", "total", "cell"], ["script"], [(351, 11)], .keep, []⟩
def i44 : Di := ⟨["value", "item"], ["value"], [], .pure, []⟩
def i45 : Di := ⟨["value"], ["value"], [], .pure, []⟩
def i46 : Di := ⟨["state", "m", "value"], ["state", "m"], [], .keep, []⟩
def i47 : Di := ⟨["script", "state", "ground", "height", "width", "rows", "m", "found", "due", "i", "k"], ["script"], [], .pure, []⟩
def dis : List Di := [i0, i1, i2, i3, i4, i5, i6, i7, i8, i9, i10, i11, i12, i13, i14, i15, i16, i17, i18, i19, i20, i21, i22, i23, i24, i25, i26, i27, i28, i29, i30, i31, i32, i33, i34, i35, i36, i37, i38, i39, i40, i41, i42, i43, i44, i45, i46, i47]
def T : Tab := ⟨List.zipWith (mkFn gl free nms mkc) fn dis, cls, nms⟩
def wt : Wt := ⟨T, cn, fn, gl, free, mkc⟩
end K67

set_option autoImplicit false
set_option linter.all false
set_option maxRecDepth 100000
set_option maxHeartbeats 4000000
namespace K67
open Pi
section
variable {cl : Cll} {lo k : Nat} {μ : Mu}
/-- is_integer -/
def code0 : List IS := [(.ret (.and (.isin (.var 0) [.int]) (.not (.isin (.var 0) [.bool]))))]
theorem fn0 : T.fns[0]? = some ⟨1, 1, [], .pure, code0⟩ := by kernel_rfl
theorem run0 {a0 : D} : run T (k + 1) lo 0 [a0] μ = finish .pure μ (exL (exS T (run T k) μ.length bodyN) code0 [some a0] μ) := by simp only [run, fn0]; rfl
@[simp] theorem callF0_1 {a0 : D} : callF T cl lo 0 [a0] μ = cl lo 0 [a0] μ := by simp only [callF, fn0]; rfl
/-- Ratio.__init__ -/
def code1 : List IS := [(.ite (.cmp .eq (.var 2) (.cst (.int 0))) [.bad] []), (.ite (.cmp .lt (.var 2) (.cst (.int 0))) [(.asg (.name 1) (.neg (.var 1))), (.asg (.name 2) (.neg (.var 2)))] []), (.asg (.name 3) (.prim false .gcd [(.var 1), (.var 2)])), (.asg (.attr (.var 0) 11) (.bin false .fdiv (.var 1) (.var 3))), (.asg (.attr (.var 0) 12) (.bin false .fdiv (.var 2) (.var 3)))]
theorem fn1 : T.fns[1]? = some ⟨3, 4, [.int 1], .keep, code1⟩ := by kernel_rfl
theorem run1 {a0 a1 a2 : D} : run T (k + 1) lo 1 [a0, a1, a2] μ = finish .keep μ (exL (exS T (run T k) lo bodyN) code1 [some a0, some a1, some a2, none] μ) := by simp only [run, fn1]; rfl
@[simp] theorem callF1_2 {a0 a1 : D} : callF T cl lo 1 [a0, a1] μ = cl lo 1 [a0, a1, .int 1] μ := by simp only [callF, fn1]; rfl
@[simp] theorem callF1_3 {a0 a1 a2 : D} : callF T cl lo 1 [a0, a1, a2] μ = cl lo 1 [a0, a1, a2] μ := by simp only [callF, fn1]; rfl
/-- Ratio.__eq__ -/
def code2 : List IS := [(.ret (.and (.isin (.var 1) [(.own 4)]) (.and (.cmp .eq (.attr (.var 0) 11) (.attr (.var 1) 11)) (.cmp .eq (.attr (.var 0) 12) (.attr (.var 1) 12)))))]
theorem fn2 : T.fns[2]? = some ⟨2, 2, [], .pure, code2⟩ := by kernel_rfl
theorem run2 {a0 a1 : D} : run T (k + 1) lo 2 [a0, a1] μ = finish .pure μ (exL (exS T (run T k) μ.length bodyN) code2 [some a0, some a1] μ) := by simp only [run, fn2]; rfl
@[simp] theorem callF2_2 {a0 a1 : D} : callF T cl lo 2 [a0, a1] μ = cl lo 2 [a0, a1] μ := by simp only [callF, fn2]; rfl
/-- Ratio.__add__ -/
def code3 : List IS := [(.ite (.not (.isin (.var 1) [(.own 4)])) [.bad] []), (.ret (.mk 4 [(.bin false .add (.bin false .mul (.attr (.var 0) 11) (.attr (.var 1) 12)) (.bin false .mul (.attr (.var 1) 11) (.attr (.var 0) 12))), (.bin false .mul (.attr (.var 0) 12) (.attr (.var 1) 12))]))]
theorem fn3 : T.fns[3]? = some ⟨2, 2, [], .pure, code3⟩ := by kernel_rfl
theorem run3 {a0 a1 : D} : run T (k + 1) lo 3 [a0, a1] μ = finish .pure μ (exL (exS T (run T k) μ.length bodyN) code3 [some a0, some a1] μ) := by simp only [run, fn3]; rfl
@[simp] theorem callF3_2 {a0 a1 : D} : callF T cl lo 3 [a0, a1] μ = cl lo 3 [a0, a1] μ := by simp only [callF, fn3]; rfl
/-- Ratio.__sub__ -/
def code4 : List IS := [(.ite (.not (.isin (.var 1) [(.own 4)])) [.bad] []), (.ret (.mk 4 [(.bin false .sub (.bin false .mul (.attr (.var 0) 11) (.attr (.var 1) 12)) (.bin false .mul (.attr (.var 1) 11) (.attr (.var 0) 12))), (.bin false .mul (.attr (.var 0) 12) (.attr (.var 1) 12))]))]
theorem fn4 : T.fns[4]? = some ⟨2, 2, [], .pure, code4⟩ := by kernel_rfl
theorem run4 {a0 a1 : D} : run T (k + 1) lo 4 [a0, a1] μ = finish .pure μ (exL (exS T (run T k) μ.length bodyN) code4 [some a0, some a1] μ) := by simp only [run, fn4]; rfl
@[simp] theorem callF4_2 {a0 a1 : D} : callF T cl lo 4 [a0, a1] μ = cl lo 4 [a0, a1] μ := by simp only [callF, fn4]; rfl
/-- Ratio.__mul__ -/
def code5 : List IS := [(.ite (.not (.isin (.var 1) [(.own 4)])) [.bad] []), (.ret (.mk 4 [(.bin false .mul (.attr (.var 0) 11) (.attr (.var 1) 11)), (.bin false .mul (.attr (.var 0) 12) (.attr (.var 1) 12))]))]
theorem fn5 : T.fns[5]? = some ⟨2, 2, [], .pure, code5⟩ := by kernel_rfl
theorem run5 {a0 a1 : D} : run T (k + 1) lo 5 [a0, a1] μ = finish .pure μ (exL (exS T (run T k) μ.length bodyN) code5 [some a0, some a1] μ) := by simp only [run, fn5]; rfl
@[simp] theorem callF5_2 {a0 a1 : D} : callF T cl lo 5 [a0, a1] μ = cl lo 5 [a0, a1] μ := by simp only [callF, fn5]; rfl
/-- Ratio.__neg__ -/
def code6 : List IS := [(.ret (.mk 4 [(.neg (.attr (.var 0) 11)), (.attr (.var 0) 12)]))]
theorem fn6 : T.fns[6]? = some ⟨1, 1, [], .pure, code6⟩ := by kernel_rfl
theorem run6 {a0 : D} : run T (k + 1) lo 6 [a0] μ = finish .pure μ (exL (exS T (run T k) μ.length bodyN) code6 [some a0] μ) := by simp only [run, fn6]; rfl
@[simp] theorem callF6_1 {a0 : D} : callF T cl lo 6 [a0] μ = cl lo 6 [a0] μ := by simp only [callF, fn6]; rfl
/-- Ratio.is_zero -/
def code7 : List IS := [(.ret (.cmp .eq (.attr (.var 0) 11) (.cst (.int 0))))]
theorem fn7 : T.fns[7]? = some ⟨1, 1, [], .pure, code7⟩ := by kernel_rfl
theorem run7 {a0 : D} : run T (k + 1) lo 7 [a0] μ = finish .pure μ (exL (exS T (run T k) μ.length bodyN) code7 [some a0] μ) := by simp only [run, fn7]; rfl
@[simp] theorem callF7_1 {a0 : D} : callF T cl lo 7 [a0] μ = cl lo 7 [a0] μ := by simp only [callF, fn7]; rfl
/-- Ratio.inverse -/
def code8 : List IS := [(.ret (.mk 4 [(.attr (.var 0) 12), (.attr (.var 0) 11)]))]
theorem fn8 : T.fns[8]? = some ⟨1, 1, [], .pure, code8⟩ := by kernel_rfl
theorem run8 {a0 : D} : run T (k + 1) lo 8 [a0] μ = finish .pure μ (exL (exS T (run T k) μ.length bodyN) code8 [some a0] μ) := by simp only [run, fn8]; rfl
@[simp] theorem callF8_1 {a0 : D} : callF T cl lo 8 [a0] μ = cl lo 8 [a0] μ := by simp only [callF, fn8]; rfl
/-- Ratio.over -/
def code9 : List IS := [(.ret (.bin false .mul (.var 0) (.meth 18 (.var 1) [])))]
theorem fn9 : T.fns[9]? = some ⟨2, 2, [], .pure, code9⟩ := by kernel_rfl
theorem run9 {a0 a1 : D} : run T (k + 1) lo 9 [a0, a1] μ = finish .pure μ (exL (exS T (run T k) μ.length bodyN) code9 [some a0, some a1] μ) := by simp only [run, fn9]; rfl
@[simp] theorem callF9_2 {a0 a1 : D} : callF T cl lo 9 [a0, a1] μ = cl lo 9 [a0, a1] μ := by simp only [callF, fn9]; rfl
/-- is_small_prime -/
def code10 : List IS := [(.ret (.and (.call 0 [(.var 0)]) (.cmp .isin (.var 0) (.glb (.tup [(.int 2), (.int 3), (.int 5), (.int 7), (.int 11), (.int 13), (.int 17), (.int 19), (.int 23), (.int 29), (.int 31)])))))]
theorem fn10 : T.fns[10]? = some ⟨1, 1, [], .pure, code10⟩ := by kernel_rfl
theorem run10 {a0 : D} : run T (k + 1) lo 10 [a0] μ = finish .pure μ (exL (exS T (run T k) μ.length bodyN) code10 [some a0] μ) := by simp only [run, fn10]; rfl
@[simp] theorem callF10_1 {a0 : D} : callF T cl lo 10 [a0] μ = cl lo 10 [a0] μ := by simp only [callF, fn10]; rfl
/-- Residue.__init__ -/
def code11 : List IS := [(.ite (.or (.not (.call 10 [(.var 1)])) (.not (.call 0 [(.var 2)]))) [.bad] []), (.asg (.attr (.var 0) 13) (.var 1)), (.asg (.attr (.var 0) 11) (.bin false .mod (.var 2) (.var 1)))]
theorem fn11 : T.fns[11]? = some ⟨3, 3, [], .keep, code11⟩ := by kernel_rfl
theorem run11 {a0 a1 a2 : D} : run T (k + 1) lo 11 [a0, a1, a2] μ = finish .keep μ (exL (exS T (run T k) lo bodyN) code11 [some a0, some a1, some a2] μ) := by simp only [run, fn11]; rfl
@[simp] theorem callF11_3 {a0 a1 a2 : D} : callF T cl lo 11 [a0, a1, a2] μ = cl lo 11 [a0, a1, a2] μ := by simp only [callF, fn11]; rfl
/-- Residue.__eq__ -/
def code12 : List IS := [(.ret (.and (.isin (.var 1) [(.own 5)]) (.and (.cmp .eq (.attr (.var 0) 13) (.attr (.var 1) 13)) (.cmp .eq (.attr (.var 0) 11) (.attr (.var 1) 11)))))]
theorem fn12 : T.fns[12]? = some ⟨2, 2, [], .pure, code12⟩ := by kernel_rfl
theorem run12 {a0 a1 : D} : run T (k + 1) lo 12 [a0, a1] μ = finish .pure μ (exL (exS T (run T k) μ.length bodyN) code12 [some a0, some a1] μ) := by simp only [run, fn12]; rfl
@[simp] theorem callF12_2 {a0 a1 : D} : callF T cl lo 12 [a0, a1] μ = cl lo 12 [a0, a1] μ := by simp only [callF, fn12]; rfl
/-- Residue.__add__ -/
def code13 : List IS := [(.ite (.or (.not (.isin (.var 1) [(.own 5)])) (.cmp .ne (.attr (.var 0) 13) (.attr (.var 1) 13))) [.bad] []), (.ret (.mk 5 [(.attr (.var 0) 13), (.bin false .add (.attr (.var 0) 11) (.attr (.var 1) 11))]))]
theorem fn13 : T.fns[13]? = some ⟨2, 2, [], .pure, code13⟩ := by kernel_rfl
theorem run13 {a0 a1 : D} : run T (k + 1) lo 13 [a0, a1] μ = finish .pure μ (exL (exS T (run T k) μ.length bodyN) code13 [some a0, some a1] μ) := by simp only [run, fn13]; rfl
@[simp] theorem callF13_2 {a0 a1 : D} : callF T cl lo 13 [a0, a1] μ = cl lo 13 [a0, a1] μ := by simp only [callF, fn13]; rfl
/-- Residue.__sub__ -/
def code14 : List IS := [(.ite (.or (.not (.isin (.var 1) [(.own 5)])) (.cmp .ne (.attr (.var 0) 13) (.attr (.var 1) 13))) [.bad] []), (.ret (.mk 5 [(.attr (.var 0) 13), (.bin false .sub (.attr (.var 0) 11) (.attr (.var 1) 11))]))]
theorem fn14 : T.fns[14]? = some ⟨2, 2, [], .pure, code14⟩ := by kernel_rfl
theorem run14 {a0 a1 : D} : run T (k + 1) lo 14 [a0, a1] μ = finish .pure μ (exL (exS T (run T k) μ.length bodyN) code14 [some a0, some a1] μ) := by simp only [run, fn14]; rfl
@[simp] theorem callF14_2 {a0 a1 : D} : callF T cl lo 14 [a0, a1] μ = cl lo 14 [a0, a1] μ := by simp only [callF, fn14]; rfl
/-- Residue.__mul__ -/
def code15 : List IS := [(.ite (.or (.not (.isin (.var 1) [(.own 5)])) (.cmp .ne (.attr (.var 0) 13) (.attr (.var 1) 13))) [.bad] []), (.ret (.mk 5 [(.attr (.var 0) 13), (.bin false .mul (.attr (.var 0) 11) (.attr (.var 1) 11))]))]
theorem fn15 : T.fns[15]? = some ⟨2, 2, [], .pure, code15⟩ := by kernel_rfl
theorem run15 {a0 a1 : D} : run T (k + 1) lo 15 [a0, a1] μ = finish .pure μ (exL (exS T (run T k) μ.length bodyN) code15 [some a0, some a1] μ) := by simp only [run, fn15]; rfl
@[simp] theorem callF15_2 {a0 a1 : D} : callF T cl lo 15 [a0, a1] μ = cl lo 15 [a0, a1] μ := by simp only [callF, fn15]; rfl
/-- Residue.__neg__ -/
def code16 : List IS := [(.ret (.mk 5 [(.attr (.var 0) 13), (.neg (.attr (.var 0) 11))]))]
theorem fn16 : T.fns[16]? = some ⟨1, 1, [], .pure, code16⟩ := by kernel_rfl
theorem run16 {a0 : D} : run T (k + 1) lo 16 [a0] μ = finish .pure μ (exL (exS T (run T k) μ.length bodyN) code16 [some a0] μ) := by simp only [run, fn16]; rfl
@[simp] theorem callF16_1 {a0 : D} : callF T cl lo 16 [a0] μ = cl lo 16 [a0] μ := by simp only [callF, fn16]; rfl
/-- Residue.is_zero -/
def code17 : List IS := [(.ret (.cmp .eq (.attr (.var 0) 11) (.cst (.int 0))))]
theorem fn17 : T.fns[17]? = some ⟨1, 1, [], .pure, code17⟩ := by kernel_rfl
theorem run17 {a0 : D} : run T (k + 1) lo 17 [a0] μ = finish .pure μ (exL (exS T (run T k) μ.length bodyN) code17 [some a0] μ) := by simp only [run, fn17]; rfl
@[simp] theorem callF17_1 {a0 : D} : callF T cl lo 17 [a0] μ = cl lo 17 [a0] μ := by simp only [callF, fn17]; rfl
/-- Residue.inverse -/
def code18 : List IS := [(.ite (.cmp .eq (.attr (.var 0) 11) (.cst (.int 0))) [.bad] []), (.asg (.name 1) (.cst (.int 1))), (.for (.name 2) (.range [(.bin false .sub (.attr (.var 0) 13) (.cst (.int 2)))]) [(.asg (.name 1) (.bin false .mod (.bin false .mul (.var 1) (.attr (.var 0) 11)) (.attr (.var 0) 13)))]), (.ret (.mk 5 [(.attr (.var 0) 13), (.var 1)]))]
theorem fn18 : T.fns[18]? = some ⟨1, 3, [], .pure, code18⟩ := by kernel_rfl
theorem run18 {a0 : D} : run T (k + 1) lo 18 [a0] μ = finish .pure μ (exL (exS T (run T k) μ.length bodyN) code18 [some a0, none, none] μ) := by simp only [run, fn18]; rfl
@[simp] theorem callF18_1 {a0 : D} : callF T cl lo 18 [a0] μ = cl lo 18 [a0] μ := by simp only [callF, fn18]; rfl
/-- Residue.over -/
def code19 : List IS := [(.ret (.bin false .mul (.var 0) (.meth 18 (.var 1) [])))]
theorem fn19 : T.fns[19]? = some ⟨2, 2, [], .pure, code19⟩ := by kernel_rfl
theorem run19 {a0 a1 : D} : run T (k + 1) lo 19 [a0, a1] μ = finish .pure μ (exL (exS T (run T k) μ.length bodyN) code19 [some a0, some a1] μ) := by simp only [run, fn19]; rfl
@[simp] theorem callF19_2 {a0 a1 : D} : callF T cl lo 19 [a0, a1] μ = cl lo 19 [a0, a1] μ := by simp only [callF, fn19]; rfl
/-- Ground.__init__ -/
def code20 : List IS := [(.ite (.or (.not (.call 0 [(.var 1)])) (.and (.cmp .ne (.var 1) (.cst (.int 0))) (.not (.call 10 [(.var 1)])))) [.bad] []), (.asg (.attr (.var 0) 13) (.var 1))]
theorem fn20 : T.fns[20]? = some ⟨2, 2, [.int 0], .keep, code20⟩ := by kernel_rfl
theorem run20 {a0 a1 : D} : run T (k + 1) lo 20 [a0, a1] μ = finish .keep μ (exL (exS T (run T k) lo bodyN) code20 [some a0, some a1] μ) := by simp only [run, fn20]; rfl
@[simp] theorem callF20_1 {a0 : D} : callF T cl lo 20 [a0] μ = cl lo 20 [a0, .int 0] μ := by simp only [callF, fn20]; rfl
@[simp] theorem callF20_2 {a0 a1 : D} : callF T cl lo 20 [a0, a1] μ = cl lo 20 [a0, a1] μ := by simp only [callF, fn20]; rfl
/-- Ground.__eq__ -/
def code21 : List IS := [(.ret (.and (.isin (.var 1) [(.own 6)]) (.cmp .eq (.attr (.var 0) 13) (.attr (.var 1) 13))))]
theorem fn21 : T.fns[21]? = some ⟨2, 2, [], .pure, code21⟩ := by kernel_rfl
theorem run21 {a0 a1 : D} : run T (k + 1) lo 21 [a0, a1] μ = finish .pure μ (exL (exS T (run T k) μ.length bodyN) code21 [some a0, some a1] μ) := by simp only [run, fn21]; rfl
@[simp] theorem callF21_2 {a0 a1 : D} : callF T cl lo 21 [a0, a1] μ = cl lo 21 [a0, a1] μ := by simp only [callF, fn21]; rfl
/-- Ground.number -/
def code22 : List IS := [(.ite (.cmp .eq (.attr (.var 0) 13) (.cst (.int 0))) [(.ret (.mk 4 [(.var 1), (.var 2)]))] []), (.ite (.cmp .eq (.bin false .mod (.var 2) (.attr (.var 0) 13)) (.cst (.int 0))) [.bad] []), (.ret (.meth 19 (.mk 5 [(.attr (.var 0) 13), (.var 1)]) [(.mk 5 [(.attr (.var 0) 13), (.var 2)])]))]
theorem fn22 : T.fns[22]? = some ⟨3, 3, [.int 1], .pure, code22⟩ := by kernel_rfl
theorem run22 {a0 a1 a2 : D} : run T (k + 1) lo 22 [a0, a1, a2] μ = finish .pure μ (exL (exS T (run T k) μ.length bodyN) code22 [some a0, some a1, some a2] μ) := by simp only [run, fn22]; rfl
@[simp] theorem callF22_2 {a0 a1 : D} : callF T cl lo 22 [a0, a1] μ = cl lo 22 [a0, a1, .int 1] μ := by simp only [callF, fn22]; rfl
@[simp] theorem callF22_3 {a0 a1 a2 : D} : callF T cl lo 22 [a0, a1, a2] μ = cl lo 22 [a0, a1, a2] μ := by simp only [callF, fn22]; rfl
/-- Ground.zero -/
def code23 : List IS := [(.ret (.meth 20 (.var 0) [(.cst (.int 0))]))]
theorem fn23 : T.fns[23]? = some ⟨1, 1, [], .pure, code23⟩ := by kernel_rfl
theorem run23 {a0 : D} : run T (k + 1) lo 23 [a0] μ = finish .pure μ (exL (exS T (run T k) μ.length bodyN) code23 [some a0] μ) := by simp only [run, fn23]; rfl
@[simp] theorem callF23_1 {a0 : D} : callF T cl lo 23 [a0] μ = cl lo 23 [a0] μ := by simp only [callF, fn23]; rfl
/-- Ground.is_member -/
def code24 : List IS := [(.ite (.cmp .eq (.attr (.var 0) 13) (.cst (.int 0))) [(.ret (.isin (.var 1) [(.own 4)]))] []), (.ret (.and (.isin (.var 1) [(.own 5)]) (.cmp .eq (.attr (.var 1) 13) (.attr (.var 0) 13))))]
theorem fn24 : T.fns[24]? = some ⟨2, 2, [], .pure, code24⟩ := by kernel_rfl
theorem run24 {a0 a1 : D} : run T (k + 1) lo 24 [a0, a1] μ = finish .pure μ (exL (exS T (run T k) μ.length bodyN) code24 [some a0, some a1] μ) := by simp only [run, fn24]; rfl
@[simp] theorem callF24_2 {a0 a1 : D} : callF T cl lo 24 [a0, a1] μ = cl lo 24 [a0, a1] μ := by simp only [callF, fn24]; rfl
/-- taken -/
def code25 : List IS := [(.ite (.call 0 [(.var 1)]) [(.ret (.meth 20 (.var 0) [(.var 1)]))] []), (.ite (.meth 22 (.var 0) [(.var 1)]) [(.ret (.var 1))] []), .bad]
theorem fn25 : T.fns[25]? = some ⟨2, 2, [], .pure, code25⟩ := by kernel_rfl
theorem run25 {a0 a1 : D} : run T (k + 1) lo 25 [a0, a1] μ = finish .pure μ (exL (exS T (run T k) μ.length bodyN) code25 [some a0, some a1] μ) := by simp only [run, fn25]; rfl
@[simp] theorem callF25_2 {a0 a1 : D} : callF T cl lo 25 [a0, a1] μ = cl lo 25 [a0, a1] μ := by simp only [callF, fn25]; rfl
/-- taken_rows -/
def code26 : List IS := [(.ite (.not (.isin (.var 1) [.list, .tuple])) [.bad] []), (.asg (.name 2) (.lst true [])), (.for (.name 3) (.seq (.var 1)) [(.ite (.not (.isin (.var 3) [.list, .tuple])) [.bad] []), (.expr (.bm false .append (.var 2) [(.prim false .tuple [(.comp false [4] (.name 4) (.seq (.var 3)) none (.call 25 [(.var 0), (.var 4)]))])]))]), (.ret (.prim false .tuple [(.var 2)]))]
theorem fn26 : T.fns[26]? = some ⟨2, 5, [], .pure, code26⟩ := by kernel_rfl
theorem run26 {a0 a1 : D} : run T (k + 1) lo 26 [a0, a1] μ = finish .pure μ (exL (exS T (run T k) μ.length bodyN) code26 [some a0, some a1, none, none, none] μ) := by simp only [run, fn26]; rfl
@[simp] theorem callF26_2 {a0 a1 : D} : callF T cl lo 26 [a0, a1] μ = cl lo 26 [a0, a1] μ := by simp only [callF, fn26]; rfl
/-- row_times -/
def code27 : List IS := [(.asg (.name 4) (.bin false .mul (.lst false [(.meth 21 (.var 0) [])]) (.var 3))), (.for (.tup [(.name 5), (.name 6)]) (.zip (.var 1) (.var 2)) [(.ite (.not (.meth 17 (.var 5) [])) [(.asg (.name 4) (.comp false [7, 8] (.tup [(.name 7), (.name 8)]) (.zip (.var 4) (.var 6)) none (.bin false .add (.var 7) (.bin false .mul (.var 5) (.var 8)))))] [])]), (.ret (.prim false .tuple [(.var 4)]))]
theorem fn27 : T.fns[27]? = some ⟨4, 9, [], .pure, code27⟩ := by kernel_rfl
theorem run27 {a0 a1 a2 a3 : D} : run T (k + 1) lo 27 [a0, a1, a2, a3] μ = finish .pure μ (exL (exS T (run T k) μ.length bodyN) code27 [some a0, some a1, some a2, some a3, none, none, none, none, none] μ) := by simp only [run, fn27]; rfl
@[simp] theorem callF27_4 {a0 a1 a2 a3 : D} : callF T cl lo 27 [a0, a1, a2, a3] μ = cl lo 27 [a0, a1, a2, a3] μ := by simp only [callF, fn27]; rfl
/-- Matrix.__init__ -/
def code28 : List IS := [(.asg (.name 4) (.call 26 [(.var 1), (.var 2)])), (.ite (.cmp .is (.var 3) (.cst .non)) [(.asg (.name 3) (.cst (.int 0))), (.ite (.cmp .gt (.prim false .len [(.var 4)]) (.cst (.int 0))) [(.asg (.name 3) (.prim false .len [(.sub (.var 4) (.cst (.int 0)))]))] [])] []), (.for (.name 5) (.seq (.var 4)) [(.ite (.cmp .ne (.prim false .len [(.var 5)]) (.var 3)) [.bad] [])]), (.ite (.or (.cmp .gt (.prim false .len [(.var 4)]) (.glb (.int 8))) (.cmp .gt (.var 3) (.glb (.int 64)))) [.bad] []), (.asg (.attr (.var 0) 14) (.var 1)), (.asg (.attr (.var 0) 15) (.var 4)), (.asg (.attr (.var 0) 16) (.var 3))]
theorem fn28 : T.fns[28]? = some ⟨4, 6, [.non], .keep, code28⟩ := by kernel_rfl
theorem run28 {a0 a1 a2 a3 : D} : run T (k + 1) lo 28 [a0, a1, a2, a3] μ = finish .keep μ (exL (exS T (run T k) lo bodyN) code28 [some a0, some a1, some a2, some a3, none, none] μ) := by simp only [run, fn28]; rfl
@[simp] theorem callF28_3 {a0 a1 a2 : D} : callF T cl lo 28 [a0, a1, a2] μ = cl lo 28 [a0, a1, a2, .non] μ := by simp only [callF, fn28]; rfl
@[simp] theorem callF28_4 {a0 a1 a2 a3 : D} : callF T cl lo 28 [a0, a1, a2, a3] μ = cl lo 28 [a0, a1, a2, a3] μ := by simp only [callF, fn28]; rfl
/-- Matrix.__len__ -/
def code29 : List IS := [(.ret (.prim false .len [(.attr (.var 0) 15)]))]
theorem fn29 : T.fns[29]? = some ⟨1, 1, [], .pure, code29⟩ := by kernel_rfl
theorem run29 {a0 : D} : run T (k + 1) lo 29 [a0] μ = finish .pure μ (exL (exS T (run T k) μ.length bodyN) code29 [some a0] μ) := by simp only [run, fn29]; rfl
@[simp] theorem callF29_1 {a0 : D} : callF T cl lo 29 [a0] μ = cl lo 29 [a0] μ := by simp only [callF, fn29]; rfl
/-- Matrix.__eq__ -/
def code30 : List IS := [(.ite (.not (.isin (.var 1) [(.own 7)])) [(.ret (.cst (.bl false)))] []), (.ret (.and (.cmp .eq (.attr (.var 0) 14) (.attr (.var 1) 14)) (.and (.cmp .eq (.attr (.var 0) 16) (.attr (.var 1) 16)) (.cmp .eq (.attr (.var 0) 15) (.attr (.var 1) 15)))))]
theorem fn30 : T.fns[30]? = some ⟨2, 2, [], .pure, code30⟩ := by kernel_rfl
theorem run30 {a0 a1 : D} : run T (k + 1) lo 30 [a0, a1] μ = finish .pure μ (exL (exS T (run T k) μ.length bodyN) code30 [some a0, some a1] μ) := by simp only [run, fn30]; rfl
@[simp] theorem callF30_2 {a0 a1 : D} : callF T cl lo 30 [a0, a1] μ = cl lo 30 [a0, a1] μ := by simp only [callF, fn30]; rfl
/-- Matrix.__add__ -/
def code31 : List IS := [(.expr (.call 39 [(.var 0), (.var 1)])), (.asg (.name 2) (.lst true [])), (.for (.tup [(.name 3), (.name 4)]) (.zip (.attr (.var 0) 15) (.attr (.var 1) 15)) [(.expr (.bm false .append (.var 2) [(.comp false [5, 6] (.tup [(.name 5), (.name 6)]) (.zip (.var 3) (.var 4)) none (.bin false .add (.var 5) (.var 6)))]))]), (.ret (.mk 7 [(.attr (.var 0) 14), (.var 2), (.attr (.var 0) 16)]))]
theorem fn31 : T.fns[31]? = some ⟨2, 7, [], .pure, code31⟩ := by kernel_rfl
theorem run31 {a0 a1 : D} : run T (k + 1) lo 31 [a0, a1] μ = finish .pure μ (exL (exS T (run T k) μ.length bodyN) code31 [some a0, some a1, none, none, none, none, none] μ) := by simp only [run, fn31]; rfl
@[simp] theorem callF31_2 {a0 a1 : D} : callF T cl lo 31 [a0, a1] μ = cl lo 31 [a0, a1] μ := by simp only [callF, fn31]; rfl
/-- Matrix.__neg__ -/
def code32 : List IS := [(.ret (.mk 7 [(.attr (.var 0) 14), (.comp false [1] (.name 1) (.seq (.attr (.var 0) 15)) none (.comp false [2] (.name 2) (.seq (.var 1)) none (.neg (.var 2)))), (.attr (.var 0) 16)]))]
theorem fn32 : T.fns[32]? = some ⟨1, 3, [], .pure, code32⟩ := by kernel_rfl
theorem run32 {a0 : D} : run T (k + 1) lo 32 [a0] μ = finish .pure μ (exL (exS T (run T k) μ.length bodyN) code32 [some a0, none, none] μ) := by simp only [run, fn32]; rfl
@[simp] theorem callF32_1 {a0 : D} : callF T cl lo 32 [a0] μ = cl lo 32 [a0] μ := by simp only [callF, fn32]; rfl
/-- Matrix.__sub__ -/
def code33 : List IS := [(.expr (.call 39 [(.var 0), (.var 1)])), (.asg (.name 2) (.lst true [])), (.for (.tup [(.name 3), (.name 4)]) (.zip (.attr (.var 0) 15) (.attr (.var 1) 15)) [(.expr (.bm false .append (.var 2) [(.comp false [5, 6] (.tup [(.name 5), (.name 6)]) (.zip (.var 3) (.var 4)) none (.bin false .sub (.var 5) (.var 6)))]))]), (.ret (.mk 7 [(.attr (.var 0) 14), (.var 2), (.attr (.var 0) 16)]))]
theorem fn33 : T.fns[33]? = some ⟨2, 7, [], .pure, code33⟩ := by kernel_rfl
theorem run33 {a0 a1 : D} : run T (k + 1) lo 33 [a0, a1] μ = finish .pure μ (exL (exS T (run T k) μ.length bodyN) code33 [some a0, some a1, none, none, none, none, none] μ) := by simp only [run, fn33]; rfl
@[simp] theorem callF33_2 {a0 a1 : D} : callF T cl lo 33 [a0, a1] μ = cl lo 33 [a0, a1] μ := by simp only [callF, fn33]; rfl
/-- Matrix.__mul__ -/
def code34 : List IS := [(.ite (.or (.cmp .ne (.attr (.var 0) 14) (.attr (.var 1) 14)) (.cmp .ne (.attr (.var 0) 16) (.prim false .len [(.attr (.var 1) 15)]))) [.bad] []), (.asg (.name 2) (.comp false [3] (.name 3) (.seq (.attr (.var 0) 15)) none (.call 27 [(.attr (.var 0) 14), (.var 3), (.attr (.var 1) 15), (.attr (.var 1) 16)]))), (.ret (.mk 7 [(.attr (.var 0) 14), (.var 2), (.attr (.var 1) 16)]))]
theorem fn34 : T.fns[34]? = some ⟨2, 4, [], .pure, code34⟩ := by kernel_rfl
theorem run34 {a0 a1 : D} : run T (k + 1) lo 34 [a0, a1] μ = finish .pure μ (exL (exS T (run T k) μ.length bodyN) code34 [some a0, some a1, none, none] μ) := by simp only [run, fn34]; rfl
@[simp] theorem callF34_2 {a0 a1 : D} : callF T cl lo 34 [a0, a1] μ = cl lo 34 [a0, a1] μ := by simp only [callF, fn34]; rfl
/-- Matrix.transposed -/
def code35 : List IS := [(.ite (.cmp .gt (.attr (.var 0) 16) (.glb (.int 8))) [.bad] []), (.asg (.name 1) (.comp false [2] (.name 2) (.range [(.attr (.var 0) 16)]) none (.comp false [3] (.name 3) (.seq (.attr (.var 0) 15)) none (.sub (.var 3) (.var 2))))), (.ret (.mk 7 [(.attr (.var 0) 14), (.var 1), (.prim false .len [(.attr (.var 0) 15)])]))]
theorem fn35 : T.fns[35]? = some ⟨1, 4, [], .pure, code35⟩ := by kernel_rfl
theorem run35 {a0 : D} : run T (k + 1) lo 35 [a0] μ = finish .pure μ (exL (exS T (run T k) μ.length bodyN) code35 [some a0, none, none, none] μ) := by simp only [run, fn35]; rfl
@[simp] theorem callF35_1 {a0 : D} : callF T cl lo 35 [a0] μ = cl lo 35 [a0] μ := by simp only [callF, fn35]; rfl
/-- Matrix.is_square -/
def code36 : List IS := [(.ret (.cmp .eq (.prim false .len [(.attr (.var 0) 15)]) (.attr (.var 0) 16)))]
theorem fn36 : T.fns[36]? = some ⟨1, 1, [], .pure, code36⟩ := by kernel_rfl
theorem run36 {a0 : D} : run T (k + 1) lo 36 [a0] μ = finish .pure μ (exL (exS T (run T k) μ.length bodyN) code36 [some a0] μ) := by simp only [run, fn36]; rfl
@[simp] theorem callF36_1 {a0 : D} : callF T cl lo 36 [a0] μ = cl lo 36 [a0] μ := by simp only [callF, fn36]; rfl
/-- Matrix.is_zero -/
def code37 : List IS := [(.ret (.prim false .all [(.comp false [1] (.name 1) (.seq (.attr (.var 0) 15)) none (.prim false .all [(.comp false [2] (.name 2) (.seq (.var 1)) none (.meth 17 (.var 2) []))]))]))]
theorem fn37 : T.fns[37]? = some ⟨1, 3, [], .pure, code37⟩ := by kernel_rfl
theorem run37 {a0 : D} : run T (k + 1) lo 37 [a0] μ = finish .pure μ (exL (exS T (run T k) μ.length bodyN) code37 [some a0, none, none] μ) := by simp only [run, fn37]; rfl
@[simp] theorem callF37_1 {a0 : D} : callF T cl lo 37 [a0] μ = cl lo 37 [a0] μ := by simp only [callF, fn37]; rfl
/-- Matrix.inverse -/
def code38 : List IS := [(.expr (.call 40 [(.var 0)])), (.asg (.name 1) (.attr (.var 0) 16)), (.asg (.name 2) (.call 41 [(.attr (.var 0) 14), (.var 1)])), (.asg (.name 3) (.comp true [8] (.name 8) (.range [(.var 1)]) none (.bin false .add (.prim false .list [(.sub (.attr (.var 0) 15) (.var 8))]) (.prim false .list [(.sub (.attr (.var 2) 15) (.var 8))])))), (.for (.name 4) (.range [(.var 1)]) [(.asg (.name 5) (.comp false [8] (.name 8) (.range [(.var 4), (.var 1)]) (some (.not (.meth 17 (.sub (.sub (.var 3) (.var 8)) (.var 4)) []))) (.var 8))), (.ite (.cmp .eq (.prim false .len [(.var 5)]) (.cst (.int 0))) [.bad] []), (.asg (.name 6) (.sub (.var 5) (.cst (.int 0)))), (.asg (.tup [(.sub (.var 3) (.var 6)), (.sub (.var 3) (.var 4))]) (.tup [(.sub (.var 3) (.var 4)), (.sub (.var 3) (.var 6))])), (.asg (.name 7) (.meth 18 (.sub (.sub (.var 3) (.var 4)) (.var 4)) [])), (.asg (.sub (.var 3) (.var 4)) (.comp false [9] (.name 9) (.seq (.sub (.var 3) (.var 4))) none (.bin false .mul (.var 7) (.var 9)))), (.for (.name 8) (.range [(.var 1)]) [(.ite (.and (.cmp .ne (.var 8) (.var 4)) (.not (.meth 17 (.sub (.sub (.var 3) (.var 8)) (.var 4)) []))) [(.asg (.name 10) (.sub (.sub (.var 3) (.var 8)) (.var 4))), (.asg (.sub (.var 3) (.var 8)) (.comp false [9, 12] (.tup [(.name 9), (.name 12)]) (.zip (.sub (.var 3) (.var 8)) (.sub (.var 3) (.var 4))) none (.bin false .sub (.var 9) (.bin false .mul (.var 10) (.var 12)))))] [])])]), (.ret (.mk 7 [(.attr (.var 0) 14), (.comp false [11] (.name 11) (.seq (.var 3)) none (.slice false (.var 11) (some (.var 1)) none)), (.var 1)]))]
theorem fn38 : T.fns[38]? = some ⟨1, 13, [], .pure, code38⟩ := by kernel_rfl
theorem run38 {a0 : D} : run T (k + 1) lo 38 [a0] μ = finish .pure μ (exL (exS T (run T k) μ.length bodyN) code38 [some a0, none, none, none, none, none, none, none, none, none, none, none, none] μ) := by simp only [run, fn38]; rfl
@[simp] theorem callF38_1 {a0 : D} : callF T cl lo 38 [a0] μ = cl lo 38 [a0] μ := by simp only [callF, fn38]; rfl
/-- check_alike -/
def code39 : List IS := [(.ite (.or (.cmp .ne (.attr (.var 0) 14) (.attr (.var 1) 14)) (.or (.cmp .ne (.attr (.var 0) 16) (.attr (.var 1) 16)) (.cmp .ne (.prim false .len [(.attr (.var 0) 15)]) (.prim false .len [(.attr (.var 1) 15)])))) [.bad] [])]
theorem fn39 : T.fns[39]? = some ⟨2, 2, [], .pure, code39⟩ := by kernel_rfl
theorem run39 {a0 a1 : D} : run T (k + 1) lo 39 [a0, a1] μ = finish .pure μ (exL (exS T (run T k) μ.length bodyN) code39 [some a0, some a1] μ) := by simp only [run, fn39]; rfl
@[simp] theorem callF39_2 {a0 a1 : D} : callF T cl lo 39 [a0, a1] μ = cl lo 39 [a0, a1] μ := by simp only [callF, fn39]; rfl
/-- check_square -/
def code40 : List IS := [(.ite (.cmp .ne (.prim false .len [(.attr (.var 0) 15)]) (.attr (.var 0) 16)) [.bad] [])]
theorem fn40 : T.fns[40]? = some ⟨1, 1, [], .pure, code40⟩ := by kernel_rfl
theorem run40 {a0 : D} : run T (k + 1) lo 40 [a0] μ = finish .pure μ (exL (exS T (run T k) μ.length bodyN) code40 [some a0] μ) := by simp only [run, fn40]; rfl
@[simp] theorem callF40_1 {a0 : D} : callF T cl lo 40 [a0] μ = cl lo 40 [a0] μ := by simp only [callF, fn40]; rfl
/-- unit -/
def code41 : List IS := [(.ret (.mk 7 [(.var 0), (.comp false [2] (.name 2) (.range [(.var 1)]) none (.comp false [3] (.name 3) (.range [(.var 1)]) none (.prim false .int [(.cmp .eq (.var 2) (.var 3))]))), (.var 1)]))]
theorem fn41 : T.fns[41]? = some ⟨2, 4, [], .pure, code41⟩ := by kernel_rfl
theorem run41 {a0 a1 : D} : run T (k + 1) lo 41 [a0, a1] μ = finish .pure μ (exL (exS T (run T k) μ.length bodyN) code41 [some a0, some a1, none, none] μ) := by simp only [run, fn41]; rfl
@[simp] theorem callF41_2 {a0 a1 : D} : callF T cl lo 41 [a0, a1] μ = cl lo 41 [a0, a1] μ := by simp only [callF, fn41]; rfl
/-- nothing -/
def code42 : List IS := [(.ret (.mk 7 [(.var 0), (.comp false [3] (.name 3) (.range [(.var 1)]) none (.bin false .mul (.lst false [(.cst (.int 0))]) (.var 2))), (.var 2)]))]
theorem fn42 : T.fns[42]? = some ⟨3, 4, [], .pure, code42⟩ := by kernel_rfl
theorem run42 {a0 a1 a2 : D} : run T (k + 1) lo 42 [a0, a1, a2] μ = finish .pure μ (exL (exS T (run T k) μ.length bodyN) code42 [some a0, some a1, some a2, none] μ) := by simp only [run, fn42]; rfl
@[simp] theorem callF42_3 {a0 a1 a2 : D} : callF T cl lo 42 [a0, a1, a2] μ = cl lo 42 [a0, a1, a2] μ := by simp only [callF, fn42]; rfl
/-- _law_state -/
def code43 : List IS := [(.asg (.name 1) (.cst (.int 0))), (.asg (.name 2) (.cst (.int 1))), (.for (.name 3) (.seq (.slice false (.var 0) none (some (.cst (.int 63))))) [(.asg (.name 1) (.bin false .add (.bin false .mul (.var 1) (.cst (.int 1000003))) (.prim false .abs [(.var 3)]))), (.asg (.name 2) (.bin false .mod (.prim false .int [(.bin false .add (.bin false .mul (.var 2) (.cst (.int 48271))) (.var 3))]) (.cst (.int 2147483647))))]), (.ret (.lst true [(.var 1), (.ite (.cmp .ne (.var 2) (.cst (.int 1973665155))) (.var 2) (.cst (.int 7)))]))]
theorem fn43 : T.fns[43]? = some ⟨1, 4, [], .keep, code43⟩ := by kernel_rfl
theorem run43 {a0 : D} : run T (k + 1) lo 43 [a0] μ = finish .keep μ (exL (exS T (run T k) lo bodyN) code43 [some a0, none, none, none] μ) := by simp only [run, fn43]; rfl
@[simp] theorem callF43_1 {a0 : D} : callF T cl lo 43 [a0] μ = cl lo 43 [a0] μ := by simp only [callF, fn43]; rfl
/-- _law_odd -/
def code44 : List IS := [(.ite (.cmp .eq (.var 0) (.cst (.str "a word that nothing else is"))) [(.ret (.cst (.bl true)))] []), (.ret (.and (.isin (.var 0) [.tuple, .list]) (.cmp .gt (.prim false .len [(.comp false [1] (.name 1) (.seq (.var 0)) (some (.call 44 [(.var 1)])) (.var 1))]) (.cst (.int 0)))))]
theorem fn44 : T.fns[44]? = some ⟨1, 2, [], .pure, code44⟩ := by kernel_rfl
theorem run44 {a0 : D} : run T (k + 1) lo 44 [a0] μ = finish .pure μ (exL (exS T (run T k) μ.length bodyN) code44 [some a0, none] μ) := by simp only [run, fn44]; rfl
@[simp] theorem callF44_1 {a0 : D} : callF T cl lo 44 [a0] μ = cl lo 44 [a0] μ := by simp only [callF, fn44]; rfl
/-- _law_honest -/
def code45 : List IS := [(.ret (.ite (.call 44 [(.var 0)]) (.cst (.str "odd")) (.var 0)))]
theorem fn45 : T.fns[45]? = some ⟨1, 1, [], .pure, code45⟩ := by kernel_rfl
theorem run45 {a0 : D} : run T (k + 1) lo 45 [a0] μ = finish .pure μ (exL (exS T (run T k) μ.length bodyN) code45 [some a0] μ) := by simp only [run, fn45]; rfl
@[simp] theorem callF45_1 {a0 : D} : callF T cl lo 45 [a0] μ = cl lo 45 [a0] μ := by simp only [callF, fn45]; rfl
/-- _law_take -/
def code46 : List IS := [(.ite (.cmp .gt (.sub (.var 0) (.cst (.int 0))) (.cst (.int 0))) [(.asg (.name 2) (.bin false .mod (.prim false .int [(.sub (.var 0) (.cst (.int 0)))]) (.var 1))), (.asg (.sub (.var 0) (.cst (.int 0))) (.bin false .fdiv (.sub (.var 0) (.cst (.int 0))) (.var 1))), (.ret (.var 2))] []), (.asg (.sub (.var 0) (.cst (.int 1))) (.bin false .mod (.prim false .int [(.bin false .add (.bin false .mul (.sub (.var 0) (.cst (.int 1))) (.cst (.int 48271))) (.cst (.int 11)))]) (.cst (.int 2147483647)))), (.ret (.bin false .mod (.prim false .int [(.bin false .fdiv (.sub (.var 0) (.cst (.int 1))) (.cst (.int 7)))]) (.var 1)))]
theorem fn46 : T.fns[46]? = some ⟨2, 3, [], .keep, code46⟩ := by kernel_rfl
theorem run46 {a0 a1 : D} : run T (k + 1) lo 46 [a0, a1] μ = finish .keep μ (exL (exS T (run T k) lo bodyN) code46 [some a0, some a1, none] μ) := by simp only [run, fn46]; rfl
@[simp] theorem callF46_2 {a0 a1 : D} : callF T cl lo 46 [a0, a1] μ = cl lo 46 [a0, a1] μ := by simp only [callF, fn46]; rfl
/-- law -/
def code47 : List IS := [(.asg (.name 1) (.call 43 [(.var 0)])), (.asg (.name 2) (.mk 6 [(.sub (.lst false [(.cst (.int 0)), (.cst (.int 2)), (.cst (.int 3)), (.cst (.int 5)), (.cst (.int 7)), (.cst (.int 31))]) (.call 46 [(.var 1), (.cst (.int 6))]))])), (.asg (.name 3) (.call 46 [(.var 1), (.cst (.int 9))])), (.asg (.name 4) (.sub (.lst false [(.var 3), (.call 46 [(.var 1), (.cst (.int 9))]), (.call 46 [(.var 1), (.cst (.int 65))])]) (.call 46 [(.var 1), (.cst (.int 3))]))), (.asg (.name 5) (.comp false [9] (.name 9) (.range [(.var 3)]) none (.comp false [10] (.name 10) (.range [(.var 4)]) none (.meth 20 (.var 2) [(.bin false .sub (.call 46 [(.var 1), (.cst (.int 9))]) (.cst (.int 4)))])))), (.asg (.name 6) (.mk 7 [(.var 2), (.var 5), (.var 4)])), (.asg (.name 7) (.lst false [(.meth 24 (.var 6) []), (.meth 24 (.call 45 [(.call 42 [(.var 2), (.var 3), (.var 4)])]) [])])), (.asg (.name 8) (.lst false [(.cmp .eq (.var 3) (.var 4)), (.cmp .eq (.var 3) (.var 4))])), (.ite (.cmp .lt (.var 4) (.cst (.int 9))) [(.asg (.name 7) (.bin false .add (.var 7) (.lst false [(.meth 24 (.meth 23 (.var 6) []) []), (.meth 24 (.call 45 [(.call 41 [(.var 2), (.var 4)])]) [])]))), (.asg (.name 8) (.bin false .add (.var 8) (.lst false [(.cmp .eq (.var 3) (.var 4)), (.cst (.bl true))])))] []), (.ret (.cmp .eq (.prim false .len [(.comp false [10] (.name 10) (.range [(.prim false .len [(.var 7)])]) (some (.or (.not (.isin (.sub (.var 7) (.var 10)) [.bool])) (.cmp .ne (.sub (.var 7) (.var 10)) (.sub (.var 8) (.var 10))))) (.var 10))]) (.cst (.int 0))))]
theorem fn47 : T.fns[47]? = some ⟨1, 11, [], .pure, code47⟩ := by kernel_rfl
theorem run47 {a0 : D} : run T (k + 1) lo 47 [a0] μ = finish .pure μ (exL (exS T (run T k) μ.length bodyN) code47 [some a0, none, none, none, none, none, none, none, none, none, none] μ) := by simp only [run, fn47]; rfl
@[simp] theorem callF47_1 {a0 : D} : callF T cl lo 47 [a0] μ = cl lo 47 [a0] μ := by simp only [callF, fn47]; rfl
/-! Fault -/
@[simp] theorem cls0 : T.cls[0]? = some ⟨true, [], 0, [], []⟩ := nr rfl
/-! ZeroDivisor -/
@[simp] theorem cls1 : T.cls[1]? = some ⟨true, [], 0, [], [0]⟩ := nr rfl
/-! Malformed -/
@[simp] theorem cls2 : T.cls[2]? = some ⟨true, [], 0, [], [0]⟩ := nr rfl
/-! Refused -/
@[simp] theorem cls3 : T.cls[3]? = some ⟨true, [10], 0, [], [0]⟩ := nr rfl
/-! Ratio -/
@[simp] theorem cls4 : T.cls[4]? = some ⟨false, [11, 12], 1, [(0, 2), (1, 3), (2, 4), (3, 5), (9, 6), (17, 7), (18, 8), (19, 9)], []⟩ := nr rfl
@[simp] theorem get4_n {a0 a1 : D} : getD T (.ins 4 [a0, a1]) 11 μ = .ok a0 μ := nr rfl
@[simp] theorem get4_d {a0 a1 : D} : getD T (.ins 4 [a0, a1]) 12 μ = .ok a1 μ := nr rfl
@[simp] theorem recv4___eq__ {fs : List D} : recvM T 0 (.ins 4 fs) μ = some 2 := nr rfl
@[simp] theorem meth4___eq__ {fs : List D} {args : Mu → Out (List D)} : methD T cl lo 0 (.ins 4 fs) args μ = (args μ).bind fun ds μ => callF T cl lo 2 (.ins 4 fs :: ds) μ := nr rfl
@[simp] theorem recv4___add__ {fs : List D} : recvM T 1 (.ins 4 fs) μ = some 3 := nr rfl
@[simp] theorem meth4___add__ {fs : List D} {args : Mu → Out (List D)} : methD T cl lo 1 (.ins 4 fs) args μ = (args μ).bind fun ds μ => callF T cl lo 3 (.ins 4 fs :: ds) μ := nr rfl
@[simp] theorem op4___add__ {b : Bool} {fs gs : List D} : binD T cl lo b .add (.ins 4 fs) (.ins 4 gs) μ = callF T cl lo 3 [.ins 4 fs, .ins 4 gs] μ := nr rfl
@[simp] theorem recv4___sub__ {fs : List D} : recvM T 2 (.ins 4 fs) μ = some 4 := nr rfl
@[simp] theorem meth4___sub__ {fs : List D} {args : Mu → Out (List D)} : methD T cl lo 2 (.ins 4 fs) args μ = (args μ).bind fun ds μ => callF T cl lo 4 (.ins 4 fs :: ds) μ := nr rfl
@[simp] theorem op4___sub__ {b : Bool} {fs gs : List D} : binD T cl lo b .sub (.ins 4 fs) (.ins 4 gs) μ = callF T cl lo 4 [.ins 4 fs, .ins 4 gs] μ := nr rfl
@[simp] theorem recv4___mul__ {fs : List D} : recvM T 3 (.ins 4 fs) μ = some 5 := nr rfl
@[simp] theorem meth4___mul__ {fs : List D} {args : Mu → Out (List D)} : methD T cl lo 3 (.ins 4 fs) args μ = (args μ).bind fun ds μ => callF T cl lo 5 (.ins 4 fs :: ds) μ := nr rfl
@[simp] theorem op4___mul__ {b : Bool} {fs gs : List D} : binD T cl lo b .mul (.ins 4 fs) (.ins 4 gs) μ = callF T cl lo 5 [.ins 4 fs, .ins 4 gs] μ := nr rfl
@[simp] theorem recv4___neg__ {fs : List D} : recvM T 9 (.ins 4 fs) μ = some 6 := nr rfl
@[simp] theorem meth4___neg__ {fs : List D} {args : Mu → Out (List D)} : methD T cl lo 9 (.ins 4 fs) args μ = (args μ).bind fun ds μ => callF T cl lo 6 (.ins 4 fs :: ds) μ := nr rfl
@[simp] theorem neg4 {fs : List D} : negD T cl lo (.ins 4 fs) μ = callF T cl lo 6 [.ins 4 fs] μ := nr rfl
@[simp] theorem recv4_is_zero {fs : List D} : recvM T 17 (.ins 4 fs) μ = some 7 := nr rfl
@[simp] theorem meth4_is_zero {fs : List D} {args : Mu → Out (List D)} : methD T cl lo 17 (.ins 4 fs) args μ = (args μ).bind fun ds μ => callF T cl lo 7 (.ins 4 fs :: ds) μ := nr rfl
@[simp] theorem recv4_inverse {fs : List D} : recvM T 18 (.ins 4 fs) μ = some 8 := nr rfl
@[simp] theorem meth4_inverse {fs : List D} {args : Mu → Out (List D)} : methD T cl lo 18 (.ins 4 fs) args μ = (args μ).bind fun ds μ => callF T cl lo 8 (.ins 4 fs :: ds) μ := nr rfl
@[simp] theorem recv4_over {fs : List D} : recvM T 19 (.ins 4 fs) μ = some 9 := nr rfl
@[simp] theorem meth4_over {fs : List D} {args : Mu → Out (List D)} : methD T cl lo 19 (.ins 4 fs) args μ = (args μ).bind fun ds μ => callF T cl lo 9 (.ins 4 fs :: ds) μ := nr rfl
@[simp] theorem isin4 {fs : List D} : ∀ {ts : List Ty}, isinD T (.ins 4 fs) ts μ = .ok (.bl (ts.any (isC 4))) μ := isinD_ins cls4 rfl
theorem make4 {ds : List D} : makeI T cl 4 ds μ = makeC [11, 12] 4 μ (callF T cl μ.length 1 (.cell μ.length :: ds) (μ ++ [.obj 4 []])) := rfl
-- 
/-! Residue -/
@[simp] theorem cls5 : T.cls[5]? = some ⟨false, [13, 11], 11, [(0, 12), (1, 13), (2, 14), (3, 15), (9, 16), (17, 17), (18, 18), (19, 19)], []⟩ := nr rfl
@[simp] theorem get5_p {a0 a1 : D} : getD T (.ins 5 [a0, a1]) 13 μ = .ok a0 μ := nr rfl
@[simp] theorem get5_n {a0 a1 : D} : getD T (.ins 5 [a0, a1]) 11 μ = .ok a1 μ := nr rfl
@[simp] theorem recv5___eq__ {fs : List D} : recvM T 0 (.ins 5 fs) μ = some 12 := nr rfl
@[simp] theorem meth5___eq__ {fs : List D} {args : Mu → Out (List D)} : methD T cl lo 0 (.ins 5 fs) args μ = (args μ).bind fun ds μ => callF T cl lo 12 (.ins 5 fs :: ds) μ := nr rfl
@[simp] theorem recv5___add__ {fs : List D} : recvM T 1 (.ins 5 fs) μ = some 13 := nr rfl
@[simp] theorem meth5___add__ {fs : List D} {args : Mu → Out (List D)} : methD T cl lo 1 (.ins 5 fs) args μ = (args μ).bind fun ds μ => callF T cl lo 13 (.ins 5 fs :: ds) μ := nr rfl
@[simp] theorem op5___add__ {b : Bool} {fs gs : List D} : binD T cl lo b .add (.ins 5 fs) (.ins 5 gs) μ = callF T cl lo 13 [.ins 5 fs, .ins 5 gs] μ := nr rfl
@[simp] theorem recv5___sub__ {fs : List D} : recvM T 2 (.ins 5 fs) μ = some 14 := nr rfl
@[simp] theorem meth5___sub__ {fs : List D} {args : Mu → Out (List D)} : methD T cl lo 2 (.ins 5 fs) args μ = (args μ).bind fun ds μ => callF T cl lo 14 (.ins 5 fs :: ds) μ := nr rfl
@[simp] theorem op5___sub__ {b : Bool} {fs gs : List D} : binD T cl lo b .sub (.ins 5 fs) (.ins 5 gs) μ = callF T cl lo 14 [.ins 5 fs, .ins 5 gs] μ := nr rfl
@[simp] theorem recv5___mul__ {fs : List D} : recvM T 3 (.ins 5 fs) μ = some 15 := nr rfl
@[simp] theorem meth5___mul__ {fs : List D} {args : Mu → Out (List D)} : methD T cl lo 3 (.ins 5 fs) args μ = (args μ).bind fun ds μ => callF T cl lo 15 (.ins 5 fs :: ds) μ := nr rfl
@[simp] theorem op5___mul__ {b : Bool} {fs gs : List D} : binD T cl lo b .mul (.ins 5 fs) (.ins 5 gs) μ = callF T cl lo 15 [.ins 5 fs, .ins 5 gs] μ := nr rfl
@[simp] theorem recv5___neg__ {fs : List D} : recvM T 9 (.ins 5 fs) μ = some 16 := nr rfl
@[simp] theorem meth5___neg__ {fs : List D} {args : Mu → Out (List D)} : methD T cl lo 9 (.ins 5 fs) args μ = (args μ).bind fun ds μ => callF T cl lo 16 (.ins 5 fs :: ds) μ := nr rfl
@[simp] theorem neg5 {fs : List D} : negD T cl lo (.ins 5 fs) μ = callF T cl lo 16 [.ins 5 fs] μ := nr rfl
@[simp] theorem recv5_is_zero {fs : List D} : recvM T 17 (.ins 5 fs) μ = some 17 := nr rfl
@[simp] theorem meth5_is_zero {fs : List D} {args : Mu → Out (List D)} : methD T cl lo 17 (.ins 5 fs) args μ = (args μ).bind fun ds μ => callF T cl lo 17 (.ins 5 fs :: ds) μ := nr rfl
@[simp] theorem recv5_inverse {fs : List D} : recvM T 18 (.ins 5 fs) μ = some 18 := nr rfl
@[simp] theorem meth5_inverse {fs : List D} {args : Mu → Out (List D)} : methD T cl lo 18 (.ins 5 fs) args μ = (args μ).bind fun ds μ => callF T cl lo 18 (.ins 5 fs :: ds) μ := nr rfl
@[simp] theorem recv5_over {fs : List D} : recvM T 19 (.ins 5 fs) μ = some 19 := nr rfl
@[simp] theorem meth5_over {fs : List D} {args : Mu → Out (List D)} : methD T cl lo 19 (.ins 5 fs) args μ = (args μ).bind fun ds μ => callF T cl lo 19 (.ins 5 fs :: ds) μ := nr rfl
@[simp] theorem isin5 {fs : List D} : ∀ {ts : List Ty}, isinD T (.ins 5 fs) ts μ = .ok (.bl (ts.any (isC 5))) μ := isinD_ins cls5 rfl
theorem make5 {ds : List D} : makeI T cl 5 ds μ = makeC [13, 11] 5 μ (callF T cl μ.length 11 (.cell μ.length :: ds) (μ ++ [.obj 5 []])) := rfl
-- 
/-! Ground -/
@[simp] theorem cls6 : T.cls[6]? = some ⟨false, [13], 20, [(0, 21), (20, 22), (21, 23), (22, 24)], []⟩ := nr rfl
@[simp] theorem get6_p {a0 : D} : getD T (.ins 6 [a0]) 13 μ = .ok a0 μ := nr rfl
@[simp] theorem recv6___eq__ {fs : List D} : recvM T 0 (.ins 6 fs) μ = some 21 := nr rfl
@[simp] theorem meth6___eq__ {fs : List D} {args : Mu → Out (List D)} : methD T cl lo 0 (.ins 6 fs) args μ = (args μ).bind fun ds μ => callF T cl lo 21 (.ins 6 fs :: ds) μ := nr rfl
@[simp] theorem recv6_number {fs : List D} : recvM T 20 (.ins 6 fs) μ = some 22 := nr rfl
@[simp] theorem meth6_number {fs : List D} {args : Mu → Out (List D)} : methD T cl lo 20 (.ins 6 fs) args μ = (args μ).bind fun ds μ => callF T cl lo 22 (.ins 6 fs :: ds) μ := nr rfl
@[simp] theorem recv6_zero {fs : List D} : recvM T 21 (.ins 6 fs) μ = some 23 := nr rfl
@[simp] theorem meth6_zero {fs : List D} {args : Mu → Out (List D)} : methD T cl lo 21 (.ins 6 fs) args μ = (args μ).bind fun ds μ => callF T cl lo 23 (.ins 6 fs :: ds) μ := nr rfl
@[simp] theorem recv6_is_member {fs : List D} : recvM T 22 (.ins 6 fs) μ = some 24 := nr rfl
@[simp] theorem meth6_is_member {fs : List D} {args : Mu → Out (List D)} : methD T cl lo 22 (.ins 6 fs) args μ = (args μ).bind fun ds μ => callF T cl lo 24 (.ins 6 fs :: ds) μ := nr rfl
@[simp] theorem isin6 {fs : List D} : ∀ {ts : List Ty}, isinD T (.ins 6 fs) ts μ = .ok (.bl (ts.any (isC 6))) μ := isinD_ins cls6 rfl
theorem make6 {ds : List D} : makeI T cl 6 ds μ = makeC [13] 6 μ (callF T cl μ.length 20 (.cell μ.length :: ds) (μ ++ [.obj 6 []])) := rfl
-- 
/-! Matrix -/
@[simp] theorem cls7 : T.cls[7]? = some ⟨false, [14, 15, 16], 28, [(7, 29), (0, 30), (1, 31), (9, 32), (2, 33), (3, 34), (23, 35), (24, 36), (17, 37), (18, 38)], []⟩ := nr rfl
@[simp] theorem get7_ground {a0 a1 a2 : D} : getD T (.ins 7 [a0, a1, a2]) 14 μ = .ok a0 μ := nr rfl
@[simp] theorem get7_rows {a0 a1 a2 : D} : getD T (.ins 7 [a0, a1, a2]) 15 μ = .ok a1 μ := nr rfl
@[simp] theorem get7_width {a0 a1 a2 : D} : getD T (.ins 7 [a0, a1, a2]) 16 μ = .ok a2 μ := nr rfl
@[simp] theorem recv7___len__ {fs : List D} : recvM T 7 (.ins 7 fs) μ = some 29 := nr rfl
@[simp] theorem meth7___len__ {fs : List D} {args : Mu → Out (List D)} : methD T cl lo 7 (.ins 7 fs) args μ = (args μ).bind fun ds μ => callF T cl lo 29 (.ins 7 fs :: ds) μ := nr rfl
@[simp] theorem recv7___eq__ {fs : List D} : recvM T 0 (.ins 7 fs) μ = some 30 := nr rfl
@[simp] theorem meth7___eq__ {fs : List D} {args : Mu → Out (List D)} : methD T cl lo 0 (.ins 7 fs) args μ = (args μ).bind fun ds μ => callF T cl lo 30 (.ins 7 fs :: ds) μ := nr rfl
@[simp] theorem recv7___add__ {fs : List D} : recvM T 1 (.ins 7 fs) μ = some 31 := nr rfl
@[simp] theorem meth7___add__ {fs : List D} {args : Mu → Out (List D)} : methD T cl lo 1 (.ins 7 fs) args μ = (args μ).bind fun ds μ => callF T cl lo 31 (.ins 7 fs :: ds) μ := nr rfl
@[simp] theorem op7___add__ {b : Bool} {fs gs : List D} : binD T cl lo b .add (.ins 7 fs) (.ins 7 gs) μ = callF T cl lo 31 [.ins 7 fs, .ins 7 gs] μ := nr rfl
@[simp] theorem recv7___neg__ {fs : List D} : recvM T 9 (.ins 7 fs) μ = some 32 := nr rfl
@[simp] theorem meth7___neg__ {fs : List D} {args : Mu → Out (List D)} : methD T cl lo 9 (.ins 7 fs) args μ = (args μ).bind fun ds μ => callF T cl lo 32 (.ins 7 fs :: ds) μ := nr rfl
@[simp] theorem neg7 {fs : List D} : negD T cl lo (.ins 7 fs) μ = callF T cl lo 32 [.ins 7 fs] μ := nr rfl
@[simp] theorem recv7___sub__ {fs : List D} : recvM T 2 (.ins 7 fs) μ = some 33 := nr rfl
@[simp] theorem meth7___sub__ {fs : List D} {args : Mu → Out (List D)} : methD T cl lo 2 (.ins 7 fs) args μ = (args μ).bind fun ds μ => callF T cl lo 33 (.ins 7 fs :: ds) μ := nr rfl
@[simp] theorem op7___sub__ {b : Bool} {fs gs : List D} : binD T cl lo b .sub (.ins 7 fs) (.ins 7 gs) μ = callF T cl lo 33 [.ins 7 fs, .ins 7 gs] μ := nr rfl
@[simp] theorem recv7___mul__ {fs : List D} : recvM T 3 (.ins 7 fs) μ = some 34 := nr rfl
@[simp] theorem meth7___mul__ {fs : List D} {args : Mu → Out (List D)} : methD T cl lo 3 (.ins 7 fs) args μ = (args μ).bind fun ds μ => callF T cl lo 34 (.ins 7 fs :: ds) μ := nr rfl
@[simp] theorem op7___mul__ {b : Bool} {fs gs : List D} : binD T cl lo b .mul (.ins 7 fs) (.ins 7 gs) μ = callF T cl lo 34 [.ins 7 fs, .ins 7 gs] μ := nr rfl
@[simp] theorem recv7_transposed {fs : List D} : recvM T 23 (.ins 7 fs) μ = some 35 := nr rfl
@[simp] theorem meth7_transposed {fs : List D} {args : Mu → Out (List D)} : methD T cl lo 23 (.ins 7 fs) args μ = (args μ).bind fun ds μ => callF T cl lo 35 (.ins 7 fs :: ds) μ := nr rfl
@[simp] theorem recv7_is_square {fs : List D} : recvM T 24 (.ins 7 fs) μ = some 36 := nr rfl
@[simp] theorem meth7_is_square {fs : List D} {args : Mu → Out (List D)} : methD T cl lo 24 (.ins 7 fs) args μ = (args μ).bind fun ds μ => callF T cl lo 36 (.ins 7 fs :: ds) μ := nr rfl
@[simp] theorem recv7_is_zero {fs : List D} : recvM T 17 (.ins 7 fs) μ = some 37 := nr rfl
@[simp] theorem meth7_is_zero {fs : List D} {args : Mu → Out (List D)} : methD T cl lo 17 (.ins 7 fs) args μ = (args μ).bind fun ds μ => callF T cl lo 37 (.ins 7 fs :: ds) μ := nr rfl
@[simp] theorem recv7_inverse {fs : List D} : recvM T 18 (.ins 7 fs) μ = some 38 := nr rfl
@[simp] theorem meth7_inverse {fs : List D} {args : Mu → Out (List D)} : methD T cl lo 18 (.ins 7 fs) args μ = (args μ).bind fun ds μ => callF T cl lo 38 (.ins 7 fs :: ds) μ := nr rfl
@[simp] theorem isin7 {fs : List D} : ∀ {ts : List Ty}, isinD T (.ins 7 fs) ts μ = .ok (.bl (ts.any (isC 7))) μ := isinD_ins cls7 rfl
theorem make7 {ds : List D} : makeI T cl 7 ds μ = makeC [14, 15, 16] 7 μ (callF T cl μ.length 28 (.cell μ.length :: ds) (μ ++ [.obj 7 []])) := rfl
-- 
end
end K67

set_option autoImplicit false
set_option linter.all false
set_option maxRecDepth 100000
set_option maxHeartbeats 1000000
namespace K67
open Pi
def primes : List Int := [2, 3, 5, 7, 11, 13, 17, 19, 23, 29, 31]
theorem log2_small {i : Int} (h : i.natAbs < 1000000000) : i.natAbs.log2 < 9000 := by
  by_cases hz : i.natAbs = 0
  · rw [hz]; decide
  · have h1 := Nat.log2_self_le hz
    rcases Nat.lt_or_ge i.natAbs.log2 9000 with h2 | h2
    · exact h2
    · have : 2 ^ 30 ≤ 2 ^ i.natAbs.log2 := Nat.pow_le_pow_right (by decide) (by omega)
      have e : (2 : Nat) ^ 30 = 1073741824 := by decide
      omega
section
variable {lo k : Nat} {μ : Mu}
@[simp] theorem is_integer_int {i : Int} : run T (k + 1) lo 0 [.int i] μ = .ok (.bl true) μ := by
  rw [run0]
  simp [code0]
@[simp] theorem is_integer_bl {i : Bool} : run T (k + 1) lo 0 [.bl i] μ = .ok (.bl false) μ := by
  rw [run0]
  simp [code0]
theorem make_ratio {n d : Int} (hd : 0 < d) (h9 : d < 1000000) : makeI T (run T (k + 1)) 4 [.int n, .int d] μ = .ok (.ins 4 [.int (n.fdiv (Int.gcd n d)), .int (d.fdiv (Int.gcd n d))]) μ := by
  rw [make4]
  have h1 : ¬ d = 0 := by omega
  have h2 : ¬ d < 0 := by omega
  have hg0 : Int.gcd n d ≠ 0 := fun z => h1 (Int.gcd_eq_zero_iff.mp z).2
  have hgle : (Int.gcd n d : Int) ≤ d := Int.le_of_dvd hd (Int.gcd_dvd_right ..)
  have hg : ((Int.gcd n d : Nat) : Int) ≠ 0 := by omega
  have hl : (Int.gcd n d : Int).natAbs.log2 < 9000 := log2_small (by omega)
  simp [run1, code1, h1, h2, binD_fdiv hg hl, makeC]
theorem prime_pos {p : Int} (h : p ∈ primes) : 2 ≤ p ∧ p ≤ 31 := by
  simp only [primes, List.mem_cons, List.not_mem_nil, or_false] at h
  omega
theorem is_small_prime {p : Int} : run T (k + 2) lo 10 [.int p] μ = .ok (.bl (decide (p ∈ primes))) μ := by
  have e : inL (eqv T (run T (k + 1)) μ 6) (D.int p) [.int 2, .int 3, .int 5, .int 7, .int 11, .int 13, .int 17, .int 19, .int 23, .int 29, .int 31] = some (decide (p ∈ primes)) := inL_ints (xs := primes)
  rw [run10]
  simp [code10, cmpD, e]
theorem make_residue {p n : Int} (h : p ∈ primes) : makeI T (run T (k + 3)) 5 [.int p, .int n] μ = .ok (.ins 5 [.int p, .int (n.fmod p)]) μ := by
  have hp := prime_pos h
  rw [make5]
  simp [run11, code11, is_small_prime, h, binD_mod (show p ≠ 0 by omega), makeC]
/-- powers -/
def powm (p a : Int) : Nat → Int
  | 0 => 1
  | n + 1 => (powm p a n * a).fmod p
theorem powm_bd {p a : Int} (h : 2 ≤ p) : ∀ n, 0 ≤ powm p a n ∧ powm p a n < p
  | 0 => by simp [powm]; omega
  | n + 1 => by
    unfold powm
    exact ⟨Int.fmod_nonneg_of_pos _ (by omega), Int.fmod_lt_of_pos _ (by omega)⟩
theorem inverse_residue {p a : Int} (h : p ∈ primes) (ha : a ≠ 0) (h0 : 0 ≤ a) (h1 : a < p) : run T (k + 4) lo 18 [.ins 5 [.int p, .int a]] μ = .ok (.ins 5 [.int p, .int (powm p a (p - 2).toNat)]) μ := by
  have hp := prime_pos h
  rw [run18]
  obtain ⟨s', e⟩ := forE_run (T := T) (cl := run T (k + 3)) (lo := μ.length) (n := 59) (tg := .name 2) (g := []) (b := [(.asg (.name 1) (.bin false .mod (.bin false .mul (.var 1) (.attr (.var 0) 11)) (.attr (.var 0) 13)))])
    (fun i s => [some (.ins 5 [.int p, .int a]), some (.int (powm p a i)), s]) (fun _ => μ) (xs := countUp 0 1 (p - 2).toNat) none (fun _ _ => rfl) (fun i x s _ => by
      have hb := powm_bd (p := p) (a := a) (by omega) i
      refine ⟨by simp, .inl ?_⟩
      simp [binD_mul (okMul_left (i := powm p a i) (j := a) (by omega)), binD_mod (show p ≠ 0 by omega), powm])
  rw [countUp_length] at e
  simp only [powm] at e
  have hb := powm_bd (p := p) (a := a) (by omega) (p - 2).toNat
  simp [code18, ha, okR_of (i := p - 2) (by omega) (by omega), e, make_residue h, Int.fmod_eq_of_lt hb.1 hb.2]
theorem powm_one {p : Int} (h : 2 ≤ p) : ∀ n, powm p 1 n = 1
  | 0 => rfl
  | n + 1 => by rw [powm, powm_one h n]; exact Int.fmod_eq_of_lt (by omega) (by omega)
theorem mul_residue {p a b : Int} (h : p ∈ primes) (ha : 0 ≤ a) (ha' : a < p) : run T (k + 4) lo 15 [.ins 5 [.int p, .int a], .ins 5 [.int p, .int b]] μ = .ok (.ins 5 [.int p, .int ((a * b).fmod p)]) μ := by
  have hp := prime_pos h
  rw [run15]
  simp [code15, binD_mul (okMul_left (i := a) (j := b) (by omega)), make_residue h]
/-- the number n of the ground p -/
def num (p n : Int) : D := if p = 0 then .ins 4 [.int n, .int 1] else .ins 5 [.int p, .int (n.fmod p)]
theorem number {p n : Int} (h : p = 0 ∨ p ∈ primes) : run T (k + 6) lo 22 [.ins 6 [.int p], .int n, .int 1] μ = .ok (num p n) μ := by
  rw [run22]
  rcases h with h | h
  · subst h
    simp [code22, make_ratio, num]
  · have hp := prime_pos h
    have h0 : ¬ p = 0 := by omega
    have e1 : (1 : Int).fmod p = 1 := Int.fmod_eq_of_lt (by omega) (by omega)
    have b1 := Int.fmod_nonneg_of_pos n (b := p) (by omega)
    have b2 := Int.fmod_lt_of_pos n (b := p) (by omega)
    have e2 : (n.fmod p).fmod p = n.fmod p := Int.fmod_eq_of_lt b1 b2
    simp [code22, h0, binD_mod h0, e1, make_residue h, run19, code19, inverse_residue h (a := 1) (by omega) (by omega) (by omega), powm_one hp.1, mul_residue h b1 b2, e2, num]

/-! ### matrices -/
def okP (p : Int) : Prop := p = 0 ∨ p ∈ primes
def isMem (p : Int) (d : D) : Prop := (p = 0 ∧ ∃ a b, d = .ins 4 [.int a, .int b]) ∨ (p ∈ primes ∧ ∃ a, d = .ins 5 [.int p, .int a])
def gr (p : Int) : D := .ins 6 [.int p]
def tk (p : Int) : D → D
  | .int i => num p i
  | d => d
@[simp] theorem get_gr {p : Int} : getD T (gr p) 13 μ = .ok (.int p) μ := nr rfl
@[simp] theorem meth_gr {m : Nat} {args : Mu → Out (List D)} {cl : Cll} {p : Int} : methD T cl lo m (gr p) args μ = methC [(0, 21), (20, 22), (21, 23), (22, 24)] T cl lo m (gr p) args μ := nr rfl
theorem number' {p n : Int} (h : p = 0 ∨ p ∈ primes) : run T (k + 6) lo 22 [gr p, .int n, .int 1] μ = .ok (num p n) μ := number h
@[simp] theorem fro_gr {p : Int} {m : Nat} : fro (m + 2) (gr p) = true := by simp [gr]
@[simp] theorem okD_gr {p : Int} {n m : Nat} : okD n (m + 2) (gr p) = true := by simp [gr]
theorem num_mem {p n : Int} (h : okP p) : isMem p (num p n) := by
  rcases h with h | h
  · exact .inl ⟨h, _, _, if_pos h⟩
  · have := prime_pos h
    exact .inr ⟨h, _, if_neg (by omega)⟩
theorem mem_fro {p : Int} {d : D} (h : isMem p d) {m : Nat} : fro (m + 2) d = true := by
  rcases h with ⟨_, a, b, rfl⟩ | ⟨_, a, rfl⟩ <;> simp
theorem taken_int {p i : Int} (h : okP p) : run T (k + 7) lo 25 [gr p, .int i] μ = .ok (num p i) μ := by
  rw [run25]
  have e := mem_fro (num_mem (n := i) h) (m := 10)
  simp [code25, gr, number h, e]
theorem taken_mem {p : Int} {d : D} (h : isMem p d) : run T (k + 7) lo 25 [gr p, d] μ = .ok d μ := by
  have e := mem_fro h (m := 10)
  rw [run25]
  rcases h with ⟨rfl, a, b, rfl⟩ | ⟨hp, a, rfl⟩
  · simp [code25, gr, run0, code0, run24, code24]
  · have := prime_pos hp
    have h0 : ¬ p = 0 := by omega
    simp [code25, gr, run0, code0, run24, code24, h0]
def isRow (p : Int) (r : D) : Prop := ∃ xs, (r = .lst xs ∨ r = .tup xs) ∧ xs.length ≤ 1000 ∧ ∀ x ∈ xs, isMem p x ∨ ∃ i, x = .int i
def rowOf : D → List D
  | .lst xs => xs
  | .tup xs => xs
  | _ => []
def tkR (p : Int) (r : D) : D := .tup ((rowOf r).map (tk p))
theorem tk_mem {p : Int} {x : D} (hp : okP p) (h : isMem p x ∨ ∃ i, x = .int i) : isMem p (tk p x) := by
  rcases h with h | ⟨i, rfl⟩
  · have : tk p x = x := by rcases h with ⟨_, a, b, rfl⟩ | ⟨_, a, rfl⟩ <;> rfl
    rw [this]; exact h
  · exact num_mem hp
theorem taken_any {p : Int} {d : D} (hp : okP p) (h : isMem p d ∨ ∃ i, d = .int i) : run T (k + 7) lo 25 [gr p, d] μ = .ok (tk p d) μ := by
  rcases h with h | ⟨i, rfl⟩
  · have : tk p d = d := by rcases h with ⟨_, a, b, rfl⟩ | ⟨_, a, rfl⟩ <;> rfl
    rw [this]; exact taken_mem h
  · exact taken_int hp
theorem taken_rows {p : Int} (hp : okP p) {rs : List D} {d : D} (hd : d = .lst rs ∨ d = .tup rs) (h : ∀ r ∈ rs, isRow p r) (hl : rs.length ≤ 1000) : run T (k + 9) lo 26 [gr p, d] μ = .ok (.tup (rs.map (tkR p))) μ := by
  obtain ⟨s', e⟩ := forE_run (T := T) (cl := run T (k + 8)) (lo := μ.length) (n := 59) (tg := .name 3) (g := []) (b := [(.ite (.not (.isin (.var 3) [.list, .tuple])) [.bad] []), (.expr (.bm false .append (.var 2) [(.prim false .tuple [(.comp false [4] (.name 4) (.seq (.var 3)) none (.call 25 [(.var 0), (.var 4)]))])]))])
    (fun i s => [some (gr p), some d, some (.cell μ.length), s, none]) (fun i => μ ++ [.lst ((rs.take i).map (tkR p))]) (xs := rs) none (fun _ _ => rfl) (fun i x s hx => by
      obtain ⟨xs, hr, hl2, hm⟩ := h x (List.mem_of_getElem? hx)
      have hi : i < rs.length := (List.getElem?_eq_some_iff.mp hx).1
      refine ⟨by simp, .inl ?_⟩
      have hc : ∀ n m, compE T (run T (k + 8)) μ.length (n + 5) (.name 4) [] none (IE.call 25 [IE.var 0, IE.var 4]) [some (gr p), some d, some (.cell μ.length), some x, none] xs m = .ok (xs.map (tk p)) m := fun n m =>
        compE_name (tk p) (by simp) fun y hy => by simp [taken_any hp (hm y hy)]
      have hb : xs.length ≤ 16777216 := by omega
      have hb2 : min i rs.length < 16777216 := by omega
      rcases hr with rfl | rfl
      · simp [hc, newT_ok, newL_ok, hb, hb2, List.take_add_one, hx, tkR, rowOf]
      · simp [hc, newT_ok, newL_ok, hb, hb2, List.take_add_one, hx, tkR, rowOf])
  simp only [List.take_zero, List.take_length, List.map_nil] at e
  have hb : rs.length ≤ 16777216 := by omega
  have hf : (∀ x ∈ rs, fro 11 (tkR p x) = true) := fun x hx => by
    obtain ⟨xs, hr, hl2, hm⟩ := h x hx
    rcases hr with rfl | rfl <;> simp [tkR, rowOf] <;> exact fun y hy => mem_fro (tk_mem hp (hm y hy))
  rw [run26]
  rcases hd with rfl | rfl
  · simp [code26, e, newT_ok, hb]
    exact fin_ret (by simpa using hf)
  · simp [code26, e, newT_ok, hb]
    exact fin_ret (by simpa using hf)

/-- a matrix -/
def mat (p : Int) (rows : List D) (w : Int) : D := .ins 7 [gr p, .tup rows, .int w]
theorem make_matrix {p : Int} (hp : okP p) {rs : List D} {d : D} (hd : d = .lst rs ∨ d = .tup rs) (h : ∀ r ∈ rs, isRow p r) (hl : rs.length ≤ 8) {w : Nat} (hw : w ≤ 64) (hr : ∀ r ∈ rs, (rowOf r).length = w) :
    makeI T (run T (k + 10)) 7 [gr p, d, .int w] μ = .ok (mat p (rs.map (tkR p)) w) μ := by
  obtain ⟨s', e⟩ := forE_run (T := T) (cl := run T (k + 9)) (lo := μ.length) (n := 59) (tg := .name 5) (g := []) (b := [(.ite (.cmp .ne (.prim false .len [(.var 5)]) (.var 3)) [.bad] [])])
    (fun i s => [some (.cell μ.length), some (gr p), some d, some (.int w), some (.tup (rs.map (tkR p))), s]) (fun i => μ ++ [.obj 7 []]) (xs := rs.map (tkR p)) none (fun _ _ => rfl) (fun i x s hx => by
      have hm := List.mem_of_getElem? hx
      rw [List.mem_map] at hm
      obtain ⟨r, hr1, rfl⟩ := hm
      have := hr r hr1
      refine ⟨by simp, .inl ?_⟩
      simp [tkR, this])
  have hf : (∀ x ∈ rs, fro 11 (tkR p x) = true) := fun x hx => by
    obtain ⟨xs, hr, hl2, hm⟩ := h x hx
    rcases hr with rfl | rfl <;> simp [tkR, rowOf] <;> exact fun y hy => mem_fro (tk_mem hp (hm y hy))
  have hl8 : ¬ (8 < rs.length) := by omega
  have hw2 : ¬ (64 < w) := by omega
  have hl8' : ¬ ((8 : Int) < rs.length) := by omega
  have hw2' : ¬ ((64 : Int) < w) := by omega
  have ho : ∀ x ∈ rs, okD μ.length 11 (tkR p x) = true := fun x hx => okD_fro (hf x hx)
  rw [make7]
  simp [run28, code28, taken_rows hp hd h (by omega), e, hl8', hw2', makeC, mat]
  simpa using ho

@[simp] theorem get_mat_g {p w : Int} {rows : List D} : getD T (mat p rows w) 14 μ = .ok (gr p) μ := nr rfl
@[simp] theorem get_mat_r {p w : Int} {rows : List D} : getD T (mat p rows w) 15 μ = .ok (.tup rows) μ := nr rfl
@[simp] theorem get_mat_w {p w : Int} {rows : List D} : getD T (mat p rows w) 16 μ = .ok (.int w) μ := nr rfl
@[simp] theorem meth_mat {m : Nat} {args : Mu → Out (List D)} {cl : Cll} {p w : Int} {rows : List D} : methD T cl lo m (mat p rows w) args μ = methC [(7, 29), (0, 30), (1, 31), (9, 32), (2, 33), (3, 34), (23, 35), (24, 36), (17, 37), (18, 38)] T cl lo m (mat p rows w) args μ := nr rfl
theorem fro_mat {p w : Int} {rows : List D} (h : ∀ r ∈ rows, fro 10 r = true) : fro 12 (mat p rows w) = true := by
  simp [mat]
  exact h
theorem is_square {p w : Int} {rows : List D} : run T (k + 1) lo 36 [mat p rows w] μ = .ok (.bl (decide ((rows.length : Int) = w))) μ := by
  rw [run36]
  simp [code36]
theorem fro_tkR {p : Int} (hp : okP p) {rs : List D} (h : ∀ r ∈ rs, isRow p r) {m : Nat} : ∀ r ∈ rs.map (tkR p), fro (m + 3) r = true := fun x hx => by
  rw [List.mem_map] at hx
  obtain ⟨r, hr, rfl⟩ := hx
  obtain ⟨xs, hr, hl2, hm⟩ := h r hr
  rcases hr with rfl | rfl <;> simp [tkR, rowOf] <;> exact fun y hy => mem_fro (tk_mem hp (hm y hy))
def zeroRows (h w : Nat) : List D := (countUp 0 1 h).map fun _ => .lst (List.replicate w (.int 0))
theorem nothing {p : Int} (hp : okP p) {h w : Nat} (hh : h ≤ 8) (hw : w ≤ 64) : run T (k + 11) lo 42 [gr p, .int h, .int w] μ = .ok (mat p ((zeroRows h w).map (tkR p)) w) μ := by
  have hc : ∀ n m, compE T (run T (k + 10)) μ.length (n + 5) (.name 3) [] none (.bin false .mul (.lst false [(.cst (.int 0))]) (.var 2)) [some (gr p), some (.int h), some (.int w), none] (countUp 0 1 h) m = .ok (zeroRows h w) m := fun n m =>
    compE_name _ (by simp) fun y hy => by
      have h1 : okR w = true := okR_of (by omega) (by omega)
      have h2 : w ≤ 16777216 := by omega
      simp [binD, h1, h2, newL_ok]
  have ho := okR_of (i := h) (by omega) (by omega)
  have hl : (zeroRows h w).length ≤ 16777216 := by simp [zeroRows, countUp_length]; omega
  have hrow : ∀ r ∈ zeroRows h w, isRow p r := fun r hr => by
    simp only [zeroRows, List.mem_map] at hr
    obtain ⟨_, _, rfl⟩ := hr
    exact ⟨_, .inl rfl, by simp; omega, fun x hx => .inr ⟨0, (List.mem_replicate.mp hx).2⟩⟩
  have hm := make_matrix (k := k) (μ := μ) hp (d := .lst (zeroRows h w)) (.inl rfl) hrow (by simp [zeroRows, countUp_length]; exact hh) hw (fun r hr => by
    simp only [zeroRows, List.mem_map] at hr
    obtain ⟨_, _, rfl⟩ := hr
    simp [rowOf])
  have hf := fin_ret (μ := μ) (μ' := μ) (fro_mat (p := p) (w := w) (fro_tkR hp hrow))
  rw [run42]
  simp [code42, ho, countUp_length, hc, newL_ok, hl, hm, hf]
def unitRows (n : Nat) : List D := (countUp 0 1 n).map fun i => .lst ((countUp 0 1 n).map fun j => .int (if i = j then 1 else 0))
theorem unit {p : Int} (hp : okP p) {n : Nat} (hn : n ≤ 8) : run T (k + 11) lo 41 [gr p, .int n] μ = .ok (mat p ((unitRows n).map (tkR p)) n) μ := by
  have ho := okR_of (i := n) (by omega) (by omega)
  have hl0 : n ≤ 16777216 := by omega
  have hc : ∀ c m, compE T (run T (k + 10)) μ.length (c + 8) (.name 2) [] none (.comp false [3] (.name 3) (.range [(.var 1)]) none (.prim false .int [(.cmp .eq (.var 2) (.var 3))])) [some (gr p), some (.int n), none, none] (countUp 0 1 n) m = .ok (unitRows n) m := fun c m =>
    compE_name _ (by simp) fun x hx => by
      obtain ⟨i, hi, rfl⟩ := countUp_mem hx
      have hc2 : ∀ c m, compE T (run T (k + 10)) μ.length (c + 4) (.name 3) [] none (.prim false .int [(.cmp .eq (.var 2) (.var 3))]) [some (gr p), some (.int n), some (.int (0 + i)), none] (countUp 0 1 n) m = .ok ((countUp 0 1 n).map fun j => .int (if .int (0 + (i : Int)) = j then 1 else 0)) m := fun c m =>
        compE_name _ (by simp) fun y hy => by
          obtain ⟨j, hj, rfl⟩ := countUp_mem hy
          simp
      simp only [Int.zero_add] at hc2
      simp [ho, hc2, newL_ok, countUp_length, hl0]
  have hrow : ∀ r ∈ unitRows n, isRow p r := fun r hr => by
    simp only [unitRows, List.mem_map] at hr
    obtain ⟨i, _, rfl⟩ := hr
    exact ⟨_, .inl rfl, by simp [countUp_length]; omega, fun x hx => by
      simp only [List.mem_map] at hx
      obtain ⟨j, _, rfl⟩ := hx
      exact .inr ⟨_, rfl⟩⟩
  have hm := make_matrix (k := k) (μ := μ) hp (d := .lst (unitRows n)) (.inl rfl) hrow (by simp [unitRows, countUp_length]; exact hn) (w := n) (by omega) (fun r hr => by
    simp only [unitRows, List.mem_map] at hr
    obtain ⟨_, _, rfl⟩ := hr
    simp [rowOf, countUp_length])
  have hf := fin_ret (μ := μ) (μ' := μ) (fro_mat (p := p) (w := n) (fro_tkR hp hrow))
  have hl : (unitRows n).length ≤ 16777216 := by simp [unitRows, countUp_length]; omega
  rw [run41]
  simp [code41, ho, countUp_length, hc, newL_ok, hl, hm, hf]
/-- the columns -/
def colRows (rows : List (List D)) (w : Nat) : List D := (countUp 0 1 w).map fun j => match j with
  | .int j => .lst (rows.map fun r => r.getD j.toNat .non)
  | _ => .non
theorem item_get {xs : List D} {j : Nat} (h : j < xs.length) : itemD (.tup xs) (.int j) μ = .ok (xs.getD j .non) μ := by
  have h1 : (0 : Int) ≤ j := by omega
  have h2 : (j : Int) < xs.length := by omega
  simp [itemD, atD, ixOf, h, h2, List.getD_eq_getElem?_getD]
theorem transposed {p : Int} (hp : okP p) {rows : List (List D)} {w : Nat} (hw : w ≤ 8) (hl : rows.length ≤ 8) (hr : ∀ r ∈ rows, r.length = w) (hm : ∀ r ∈ rows, ∀ x ∈ r, isMem p x) : run T (k + 11) lo 35 [mat p (rows.map .tup) w] μ = .ok (mat p ((colRows rows w).map (tkR p)) rows.length) μ := by
  have hw8 : ¬ ((8 : Int) < w) := by omega
  have ho := okR_of (i := w) (by omega) (by omega)
  have hc : ∀ c m, compE T (run T (k + 10)) μ.length (c + 8) (.name 2) [] none (.comp false [3] (.name 3) (.seq (.attr (.var 0) 15)) none (.sub (.var 3) (.var 2))) [some (mat p (rows.map .tup) w), none, none, none] (countUp 0 1 w) m = .ok (colRows rows w) m := fun c m =>
    compE_name _ (by simp) fun x hx => by
      obtain ⟨j, hj, rfl⟩ := countUp_mem hx
      have hc2 : ∀ c m, compE T (run T (k + 10)) μ.length (c + 4) (.name 3) [] none (.sub (.var 3) (.var 2)) [some (mat p (rows.map .tup) w), none, some (.int (0 + j)), none] (rows.map .tup) m = .ok ((rows.map .tup).map fun r => (rowOf r).getD j .non) m := fun c m =>
        compE_name _ (by simp) fun y hy => by
          rw [List.mem_map] at hy
          obtain ⟨r, hr1, rfl⟩ := hy
          have := hr r hr1
          simp [item_get (xs := r) (j := j) (by omega), rowOf]
      have hl2 : rows.length ≤ 16777216 := by omega
      simp only [Int.zero_add] at hc2
      simp [hc2, newL_ok, hl2]
      intro r _
      rfl
  have hrow : ∀ r ∈ colRows rows w, isRow p r := fun r hr' => by
    simp only [colRows, List.mem_map] at hr'
    obtain ⟨x, hx, rfl⟩ := hr'
    obtain ⟨j, hj, rfl⟩ := countUp_mem hx
    refine ⟨_, .inl rfl, by simp; omega, fun x hx => ?_⟩
    simp only [List.mem_map] at hx
    obtain ⟨r, hr1, rfl⟩ := hx
    left
    have h3 := hr r hr1
    simp only [Int.zero_add, Int.toNat_natCast]
    rw [List.getD_eq_getElem?_getD, List.getElem?_eq_getElem (by omega)]
    exact hm r hr1 _ (List.getElem_mem _)
  have hm2 := make_matrix (k := k) (μ := μ) hp (d := .lst (colRows rows w)) (.inl rfl) hrow (by simp [colRows, countUp_length]; exact hw) (w := rows.length) (by omega) (fun r hr => by
    simp only [colRows, List.mem_map] at hr
    obtain ⟨x, hx, rfl⟩ := hr
    obtain ⟨j, hj, rfl⟩ := countUp_mem hx
    simp [rowOf])
  have hf := fin_ret (μ := μ) (μ' := μ) (fro_mat (p := p) (w := rows.length) (fro_tkR hp hrow))
  have hl3 : (colRows rows w).length ≤ 16777216 := by simp [colRows, countUp_length]; omega
  rw [run35]
  simp [code35, ho, hw8, hc, newL_ok, hl3, hm2, hf]
end
end K67

set_option autoImplicit false
set_option linter.all false
set_option maxRecDepth 100000
set_option maxHeartbeats 1000000
namespace K67
open Pi
section
variable {lo k : Nat} {μ : Mu}
/-- the law's state -/
def St (μ : Mu) : Prop := ∃ s t : Int, 0 ≤ s ∧ μ = [.lst [.int s, .int t]]
theorem take_ok {m : Int} (hm : 0 < m) (hm2 : m < 1000000) {μ : Mu} (h : St μ) : ∃ (v : Int) (μ' : Mu), run T (k + 1) 0 46 [.cell 0, .int m] μ = .ok (.int v) μ' ∧ St μ' ∧ 0 ≤ v ∧ v < m := by
  obtain ⟨s, t, hs, rfl⟩ := h
  have hm0 : m ≠ 0 := by omega
  have hl : m.natAbs.log2 < 9000 := log2_small (by omega)
  have hl7 : (7 : Int).natAbs.log2 < 9000 := log2_small (by omega)
  have i0 : itemD (.lst [.int s, .int t]) (.int 0) [.lst [.int s, .int t]] = .ok (.int s) [.lst [.int s, .int t]] := rfl
  by_cases h0 : 0 < s
  · refine ⟨s.fmod m, [.lst [.int (s.fdiv m), .int t]], ?_, ⟨_, _, Int.fdiv_nonneg hs (by omega), rfl⟩, Int.fmod_nonneg_of_pos _ hm, Int.fmod_lt_of_pos _ hm⟩
    rw [run46]
    simp [code46, i0, h0, binD_mod hm0, binD_fdiv hm0 hl, ixOf]
  · have i1 : ∀ t, itemD (.lst [.int s, .int t]) (.int 1) [.lst [.int s, .int t]] = .ok (.int t) [.lst [.int s, .int t]] := fun _ => rfl
    refine ⟨(((t * 48271 + 11).fmod 2147483647).fdiv 7).fmod m, [.lst [.int s, .int ((t * 48271 + 11).fmod 2147483647)]], ?_, ⟨_, _, hs, rfl⟩, Int.fmod_nonneg_of_pos _ hm, Int.fmod_lt_of_pos _ hm⟩
    · rw [run46]
      simp [code46, i0, h0, i1, binD_mod hm0, binD_mod (j := 2147483647) (by decide), binD_fdiv (j := 7) (by decide) hl7, binD_mul (okMul_right (i := t) (j := 48271) (by decide)), ixOf]
theorem law_state (ns : List Int) (hns : ns.length ≤ 63) : ∃ μ', run T (k + 1) 0 43 [.arg (ns.map .int)] [] = .ok (.cell 0) μ' ∧ St μ' := by
  obtain ⟨e', μ', h1, rfl, s, t, x, rfl, hs, -⟩ := forE_ex (T := T) (cl := run T k) (lo := 0) (n := 59) (tg := .name 3) (g := []) (b := [(.asg (.name 1) (.bin false .add (.bin false .mul (.var 1) (.cst (.int 1000003))) (.prim false .abs [(.var 3)]))), (.asg (.name 2) (.bin false .mod (.prim false .int [(.bin false .add (.bin false .mul (.var 2) (.cst (.int 48271))) (.var 3))]) (.cst (.int 2147483647))))])
    (fun r env m => m = [] ∧ ∃ s t x, env = [some (.arg (ns.map .int)), some (.int s), some (.int t), x] ∧ 0 ≤ s ∧ ∀ y ∈ r, ∃ i : Int, y = .int i) (fun _ _ _ _ => rfl) (by
      rintro y r e m ⟨rfl, s, t, x, rfl, hs, hi⟩
      obtain ⟨i, rfl⟩ := hi y (by simp)
      refine ⟨_, by simp; rfl, [some (.arg (ns.map .int)), some (.int (s * 1000003 + (if i < 0 then -i else i))), some (.int ((t * 48271 + i).fmod 2147483647)), some (.int i)], [], .inl ?_, rfl, _, _, _, rfl, ?_, fun y hy => hi y (by simp [hy])⟩
      · simp [binD_mul (okMul_right (i := s) (j := 1000003) (by decide)), binD_mul (okMul_right (i := t) (j := 48271) (by decide)), binD_mod (j := 2147483647) (by decide)]
      · split <;> omega) (xs := cut (ns.map .int) none (some 63)) (env := [some (.arg (ns.map .int)), some (.int 0), some (.int 1), none]) (μ := []) ⟨rfl, 0, 1, none, rfl, by decide, fun y hy => by
        have : y ∈ ns.map D.int := List.mem_of_mem_drop (List.mem_of_mem_take (by unfold cut at hy; exact hy))
        rw [List.mem_map] at this
        obtain ⟨i, _, rfl⟩ := this
        exact ⟨i, rfl⟩⟩
  have hc : (cut (ns.map .int) none (some 63)).length ≤ 16777216 := by
    unfold cut
    rw [List.length_take, List.length_drop, List.length_map]
    omega
  by_cases ht : t = 1973665155
  · refine ⟨[.lst [.int s, .int 7]], ?_, s, 7, hs, rfl⟩
    rw [run43]
    simp [code43, sliceD, newL_ok, hc, h1, ht, okR_of (i := 63) (by decide) (by decide)]
  · refine ⟨[.lst [.int s, .int t]], ?_, s, t, hs, rfl⟩
    rw [run43]
    simp [code43, sliceD, newL_ok, hc, h1, ht, okR_of (i := 63) (by decide) (by decide)]

theorem honest {p w : Int} {rows : List D} (hf : fro 12 (mat p rows w) = true) : run T (k + 4) lo 45 [mat p rows w] μ = .ok (mat p rows w) μ := by
  have e : ∀ s cl, eqv T (run T (k + 2)) cl (5 + 1) (mat p rows w) (.str s) = some false := fun s cl => by
    simp [mat, insV, kindD]
    simp [run30, code30]
  rw [run45]
  have hf2 := fin_ret (μ := μ) (μ' := μ) hf
  simp [code45, run44, code44, e]
  simp [mat] at hf2 ⊢
  exact hf2

theorem make_ground {p : Int} (hp : okP p) : makeI T (run T (k + 3)) 6 [.int p] μ = .ok (gr p) μ := by
  rw [make6]
  rcases hp with rfl | h
  · simp [run20, code20, makeC, gr]
  · have := prime_pos h
    have h0 : ¬ p = 0 := by omega
    simp [run20, code20, makeC, gr, is_small_prime, h, h0]
/-- one of the grounds -/
theorem pick {v : Int} (h0 : 0 ≤ v) (h1 : v < 6) : ∃ p : Int, okP p ∧ ∀ μ, itemD (.lst [.int 0, .int 2, .int 3, .int 5, .int 7, .int 31]) (.int v) μ = .ok (.int p) μ := by
  have : v = 0 ∨ v = 1 ∨ v = 2 ∨ v = 3 ∨ v = 4 ∨ v = 5 := by omega
  rcases this with rfl | rfl | rfl | rfl | rfl | rfl
  · exact ⟨0, .inl rfl, fun _ => rfl⟩
  · exact ⟨2, .inr (by decide), fun _ => rfl⟩
  · exact ⟨3, .inr (by decide), fun _ => rfl⟩
  · exact ⟨5, .inr (by decide), fun _ => rfl⟩
  · exact ⟨7, .inr (by decide), fun _ => rfl⟩
  · exact ⟨31, .inr (by decide), fun _ => rfl⟩
theorem pick3 {v a b c : Int} (h0 : 0 ≤ v) (h1 : v < 3) : ∃ w : Int, (w = a ∨ w = b ∨ w = c) ∧ ∀ μ, itemD (.lst [.int a, .int b, .int c]) (.int v) μ = .ok (.int w) μ := by
  have : v = 0 ∨ v = 1 ∨ v = 2 := by omega
  rcases this with rfl | rfl | rfl
  · exact ⟨a, .inl rfl, fun _ => rfl⟩
  · exact ⟨b, .inr (.inl rfl), fun _ => rfl⟩
  · exact ⟨c, .inr (.inr rfl), fun _ => rfl⟩
def rowP (p : Int) (w : Nat) (y : D) : Prop := ∃ xs, y = .lst xs ∧ xs.length = w ∧ ∀ x ∈ xs, isMem p x
theorem draw_rows {p : Int} (hp : okP p) {h w : Nat} (hh : h ≤ 8) (hw : w ≤ 64) {env : En} {n : Nat} (s0 : env[1]? = some (some (.cell 0))) (s2 : env[2]? = some (some (gr p))) (s4 : env[4]? = some (some (.int w))) (hl : 10 < env.length) {μ : Mu} (hμ : St μ) :
    ∃ ys μ', compE T (run T (k + 8)) 0 (n + 12) (.name 9) [] none (.comp false [10] (.name 10) (.range [(.var 4)]) none (.meth 20 (.var 2) [(.bin false .sub (.call 46 [(.var 1), (.cst (.int 9))]) (.cst (.int 4)))])) env (countUp 0 1 h) μ = .ok ys μ' ∧ St μ' ∧ ys.length = (countUp 0 1 h).length ∧ ∀ y ∈ ys, rowP p w y := by
  have sl : ∀ (e : En) (i : Nat) (d : D), e[i]? = some (some d) → ∀ μ, slot e i μ = .ok d μ := fun e i d h μ => by simp [slot, h]
  refine compE_ex St (rowP p w) (fun _ _ => rfl) (fun x hx μ hμ => ?_) hμ
  refine ⟨env.set 9 (some x), by rw [setTg_name, if_pos (by omega)], ?_⟩
  obtain ⟨ys, μ', e, h1, h2, h3⟩ := compE_ex (T := T) (cl := run T (k + 8)) (lo := 0) (n := n + 11) (env := (env.set 9 (some x)).set 10 none) (tg := .name 10) (g := []) (elt := (.meth 20 (.var 2) [(.bin false .sub (.call 46 [(.var 1), (.cst (.int 9))]) (.cst (.int 4)))])) (xs := countUp 0 1 w) St (isMem p) (fun _ _ => rfl) (fun y hy μ hμ => by
    refine ⟨((env.set 9 (some x)).set 10 none).set 10 (some y), by rw [setTg_name, if_pos (by simp; omega)], ?_⟩
    obtain ⟨v, μ', e1, e2, e3, e4⟩ := take_ok (k := k + 7) (m := 9) (by decide) (by decide) hμ
    refine ⟨num p (v - 4), μ', ?_, e2, num_mem hp⟩
    have n1 := number' (k := k + 2) (lo := 0) (μ := μ') (n := v - 4) hp
    have s0' := sl ((env.set 9 (some x)).set 10 (some y)) 1 (.cell 0) (by simp [s0])
    have s2' := sl ((env.set 9 (some x)).set 10 (some y)) 2 (gr p) (by simp [s2])
    simp [s0', s2', e1, n1]) hμ
  have s4' := sl (env.set 9 (some x)) 4 (.int w) (by simp [s4])
  have hl : ys.length ≤ 16777216 := by rw [h2, countUp_length]; omega
  refine ⟨.lst ys, μ', ?_, h1, ys, rfl, by rw [h2, countUp_length], h3⟩
  simp [s4', okR_of (i := w) (by omega) (by omega), e, newL_ok, hl]

theorem law_runs0 (ns : List Int) (hns : ns.length ≤ 63) : ∃ μ, run T 13 0 47 [.arg (ns.map .int)] [] = .ok (.bl true) μ := by
  obtain ⟨μ0, e0, q0⟩ := law_state (k := 11) ns hns
  obtain ⟨v1, μ1, e1, q1, a1, b1⟩ := take_ok (k := 11) (m := 6) (by decide) (by decide) q0
  obtain ⟨p, hp, ep⟩ := pick a1 b1
  have eg := fun μ => make_ground (k := 9) (μ := μ) hp
  obtain ⟨v2, μ2, e2, q2, a2, b2⟩ := take_ok (k := 11) (m := 9) (by decide) (by decide) q1
  obtain ⟨h, rfl⟩ : ∃ h : Nat, v2 = h := ⟨v2.toNat, by omega⟩
  obtain ⟨v3, μ3, e3, q3, a3, b3⟩ := take_ok (k := 11) (m := 9) (by decide) (by decide) q2
  obtain ⟨v4, μ4, e4, q4, a4, b4⟩ := take_ok (k := 11) (m := 65) (by decide) (by decide) q3
  obtain ⟨v5, μ5, e5, q5, a5, b5⟩ := take_ok (k := 11) (m := 3) (by decide) (by decide) q4
  obtain ⟨w, hw, ew⟩ := pick3 (a := (h : Int)) (b := v3) (c := v4) a5 b5
  obtain ⟨w, rfl⟩ : ∃ x : Nat, w = x := ⟨w.toNat, by omega⟩
  have hw64 : w ≤ 64 := by omega
  have hh8 : h ≤ 8 := by omega
  obtain ⟨ys, μ6, e6, q6, l6, p6⟩ := draw_rows (k := 4) (n := 46) hp hh8 hw64 (env := [some (.arg (ns.map .int)), some (.cell 0), some (gr p), some (.int h), some (.int w), none, none, none, none, none, none]) rfl rfl rfl (by simp) q5
  rw [countUp_length] at l6
  have hrow : ∀ r ∈ ys, isRow p r := fun r hr => by
    obtain ⟨xs, rfl, h1, h2⟩ := p6 r hr
    exact ⟨xs, .inl rfl, by omega, fun x hx => .inl (h2 x hx)⟩
  have hlen : ∀ r ∈ ys, (rowOf r).length = w := fun r hr => by
    obtain ⟨xs, rfl, h1, h2⟩ := p6 r hr
    exact h1
  have em := fun μ => make_matrix (k := 2) (μ := μ) hp (d := .lst ys) (.inl rfl) hrow (by omega) hw64 hlen
  have er : ys.map (tkR p) = (ys.map rowOf).map .tup := by
    rw [List.map_map]
    refine List.map_congr_left fun r hr => ?_
    obtain ⟨xs, rfl, h1, h2⟩ := p6 r hr
    simp only [tkR, rowOf, Function.comp, D.tup.injEq]
    conv => rhs; rw [← List.map_id xs]
    exact List.map_congr_left fun x hx => by rcases h2 x hx with ⟨_, a, b, rfl⟩ | ⟨_, a, rfl⟩ <;> rfl
  have en := fun μ => nothing (k := 1) (lo := 0) (μ := μ) hp hh8 hw64
  have hl6 : ys.length ≤ 16777216 := by omega
  have oh : okR h = true := okR_of (by omega) (by omega)
  have zl : (zeroRows h w).length = h := by simp [zeroRows, countUp_length]
  have hm12 : fro 12 (mat p (ys.map (tkR p)) w) = true := fro_mat (fro_tkR hp hrow)
  have ez := honest (k := 8) (lo := 0) (μ := μ6) (p := p) (w := w) (rows := (zeroRows h w).map (tkR p)) (fro_mat (fro_tkR hp fun r hr => by
    simp only [zeroRows, List.mem_map] at hr
    obtain ⟨_, _, rfl⟩ := hr
    exact ⟨_, .inl rfl, by simp; omega, fun x hx => .inr ⟨0, (List.mem_replicate.mp hx).2⟩⟩))
  have es := fun rows w μ => is_square (k := 11) (lo := 0) (μ := μ) (p := p) (rows := rows) (w := w)
  have hrm : ∀ r ∈ ys.map rowOf, r.length = w ∧ ∀ x ∈ r, isMem p x := fun r hr => by
    rw [List.mem_map] at hr
    obtain ⟨y, hy, rfl⟩ := hr
    obtain ⟨xs, rfl, h1, h2⟩ := p6 y hy
    exact ⟨h1, h2⟩
  have cl_ : (colRows (ys.map rowOf) w).length = w := by simp [colRows, countUp_length]
  have ul_ : (unitRows w).length = w := by simp [unitRows, countUp_length]
  have hh16 : h ≤ 16777216 := by omega
  rw [run47]
  simp only [loOf, List.length_nil]
  have hE : ∀ (A : List Bool) (n : Nat) (s0 s1 s2 s3 s4 s5 s6 : Option D), compE T (run T 12) 0 (n + 10) (.name 10) [] (some (.or (.not (.isin (.sub (.var 7) (.var 10)) [.bool])) (.cmp .ne (.sub (.var 7) (.var 10)) (.sub (.var 8) (.var 10))))) (.var 10)
      [s0, s1, s2, s3, s4, s5, s6, some (.lst (A.map .bl)), some (.lst (A.map .bl)), none, none] (countUp 0 1 A.length) μ6 = .ok [] μ6 := fun A n s0 s1 s2 s3 s4 s5 s6 =>
    compE_none fun x hx => by
      obtain ⟨j, hj, rfl⟩ := countUp_mem hx
      have hi := itemD_lst (μ := μ6) (xs := A.map .bl) (j := j) (d := .bl A[j]) (by simp [hj])
      exact ⟨_, by rw [setTg_name, if_pos (by simp)], by simp [hi]⟩
  by_cases h9 : w < 9
  · have h9' : (w : Int) < 9 := by omega
    have et := transposed (k := 1) (lo := 0) (μ := μ6) hp (rows := ys.map rowOf) (w := w) (by omega) (by simp; omega) (fun r hr => (hrm r hr).1) (fun r hr => (hrm r hr).2)
    simp only [List.map_map, List.length_map] at et
    have eu := unit (k := 1) (lo := 0) (μ := μ6) hp (n := w) (by omega)
    have ez2 := honest (k := 8) (lo := 0) (μ := μ6) (p := p) (w := w) (rows := (unitRows w).map (tkR p)) (fro_mat (fro_tkR hp fun r hr => by
      simp only [unitRows, List.mem_map] at hr
      obtain ⟨i, _, rfl⟩ := hr
      exact ⟨_, .inl rfl, by simp [countUp_length]; omega, fun x hx => by
        simp only [List.mem_map] at hx
        obtain ⟨j, _, rfl⟩ := hx
        exact .inr ⟨_, rfl⟩⟩))
    simp [code47, e0, e1, ep, eg, e2, e3, e4, e5, ew, oh, e6, newL_ok, hl6, hh16, em, en, ez, es, h9', er, et, eu, ez2, l6, zl, cl_, ul_]
    by_cases hx : (h : Int) = w
    · have key := hE [true, true, true, true]
      simp at key
      simp [hx, key]
    · have hx' : ¬ (w : Int) = h := fun e => hx e.symm
      have key := hE [false, false, false, true]
      simp at key
      simp [hx, hx', key]
  · have h9' : ¬ (w : Int) < 9 := by omega
    simp [code47, e0, e1, ep, eg, e2, e3, e4, e5, ew, oh, e6, newL_ok, hl6, hh16, em, en, ez, es, h9', l6, zl]
    by_cases hx : (h : Int) = w
    · have key := hE [true, true]
      simp at key
      simp [hx, key]
    · have key := hE [false, false]
      simp at key
      simp [hx, key]
end
def depth : Nat := 12
theorem law_runs : ∀ ns : List Int, ns.length ≤ 63 → ∃ μ, run wt.T (depth + 1) 0 47 [.arg (ns.map .int)] [] = .ok (.bl true) μ := fun ns h => law_runs0 ns h
end K67

set_option Elab.async false
set_option linter.all false
set_option maxRecDepth 100000
set_option maxHeartbeats 0
namespace K67
open PySem PySem.Spec PyProof.Rows L2 Pi Sd
theorem b0 : BindOk d0 i0 := ⟨fun _ kV doc pm an cdv ct us hl => (match us, hl with | [_], _ => rfl), fun h => absurd rfl h⟩
theorem b1 : BindOk d1 i1 := ⟨fun h => (nomatch h), fun _ n h1 h2 T kV doc pm an cdv ct us its hl hi => by
    have h1 : n ≤ 3 := h1
    have h2 : 3 - n ≤ 1 := h2
    obtain h | h : n = 2 ∨ n = 3 := by omega
    · subst h; exact (match us, hl, its, hi with | [_, _], _, [_], _ => ⟨_, rfl, rfl⟩)
    · subst h; exact (match us, hl, its, hi with | [_, _, _], _, [_], _ => ⟨_, rfl, rfl⟩)⟩
theorem b2 : BindOk d2 i2 := ⟨fun _ kV doc pm an cdv ct us hl => (match us, hl with | [_, _], _ => rfl), fun h => absurd rfl h⟩
theorem b3 : BindOk d3 i3 := ⟨fun _ kV doc pm an cdv ct us hl => (match us, hl with | [_, _], _ => rfl), fun h => absurd rfl h⟩
theorem b4 : BindOk d4 i4 := ⟨fun _ kV doc pm an cdv ct us hl => (match us, hl with | [_, _], _ => rfl), fun h => absurd rfl h⟩
theorem b5 : BindOk d5 i5 := ⟨fun _ kV doc pm an cdv ct us hl => (match us, hl with | [_, _], _ => rfl), fun h => absurd rfl h⟩
theorem b6 : BindOk d6 i6 := ⟨fun _ kV doc pm an cdv ct us hl => (match us, hl with | [_], _ => rfl), fun h => absurd rfl h⟩
theorem b7 : BindOk d7 i7 := ⟨fun _ kV doc pm an cdv ct us hl => (match us, hl with | [_], _ => rfl), fun h => absurd rfl h⟩
theorem b8 : BindOk d8 i8 := ⟨fun _ kV doc pm an cdv ct us hl => (match us, hl with | [_], _ => rfl), fun h => absurd rfl h⟩
theorem b9 : BindOk d9 i9 := ⟨fun _ kV doc pm an cdv ct us hl => (match us, hl with | [_, _], _ => rfl), fun h => absurd rfl h⟩
theorem b10 : BindOk d10 i10 := ⟨fun _ kV doc pm an cdv ct us hl => (match us, hl with | [_], _ => rfl), fun h => absurd rfl h⟩
theorem b11 : BindOk d11 i11 := ⟨fun _ kV doc pm an cdv ct us hl => (match us, hl with | [_, _, _], _ => rfl), fun h => absurd rfl h⟩
theorem b12 : BindOk d12 i12 := ⟨fun _ kV doc pm an cdv ct us hl => (match us, hl with | [_, _], _ => rfl), fun h => absurd rfl h⟩
theorem b13 : BindOk d13 i13 := ⟨fun _ kV doc pm an cdv ct us hl => (match us, hl with | [_, _], _ => rfl), fun h => absurd rfl h⟩
theorem b14 : BindOk d14 i14 := ⟨fun _ kV doc pm an cdv ct us hl => (match us, hl with | [_, _], _ => rfl), fun h => absurd rfl h⟩
theorem b15 : BindOk d15 i15 := ⟨fun _ kV doc pm an cdv ct us hl => (match us, hl with | [_, _], _ => rfl), fun h => absurd rfl h⟩
theorem b16 : BindOk d16 i16 := ⟨fun _ kV doc pm an cdv ct us hl => (match us, hl with | [_], _ => rfl), fun h => absurd rfl h⟩
theorem b17 : BindOk d17 i17 := ⟨fun _ kV doc pm an cdv ct us hl => (match us, hl with | [_], _ => rfl), fun h => absurd rfl h⟩
theorem b18 : BindOk d18 i18 := ⟨fun _ kV doc pm an cdv ct us hl => (match us, hl with | [_], _ => rfl), fun h => absurd rfl h⟩
theorem b19 : BindOk d19 i19 := ⟨fun _ kV doc pm an cdv ct us hl => (match us, hl with | [_, _], _ => rfl), fun h => absurd rfl h⟩
theorem b20 : BindOk d20 i20 := ⟨fun h => (nomatch h), fun _ n h1 h2 T kV doc pm an cdv ct us its hl hi => by
    have h1 : n ≤ 2 := h1
    have h2 : 2 - n ≤ 1 := h2
    obtain h | h : n = 1 ∨ n = 2 := by omega
    · subst h; exact (match us, hl, its, hi with | [_], _, [_], _ => ⟨_, rfl, rfl⟩)
    · subst h; exact (match us, hl, its, hi with | [_, _], _, [_], _ => ⟨_, rfl, rfl⟩)⟩
theorem b21 : BindOk d21 i21 := ⟨fun _ kV doc pm an cdv ct us hl => (match us, hl with | [_, _], _ => rfl), fun h => absurd rfl h⟩
theorem b22 : BindOk d22 i22 := ⟨fun h => (nomatch h), fun _ n h1 h2 T kV doc pm an cdv ct us its hl hi => by
    have h1 : n ≤ 3 := h1
    have h2 : 3 - n ≤ 1 := h2
    obtain h | h : n = 2 ∨ n = 3 := by omega
    · subst h; exact (match us, hl, its, hi with | [_, _], _, [_], _ => ⟨_, rfl, rfl⟩)
    · subst h; exact (match us, hl, its, hi with | [_, _, _], _, [_], _ => ⟨_, rfl, rfl⟩)⟩
theorem b23 : BindOk d23 i23 := ⟨fun _ kV doc pm an cdv ct us hl => (match us, hl with | [_], _ => rfl), fun h => absurd rfl h⟩
theorem b24 : BindOk d24 i24 := ⟨fun _ kV doc pm an cdv ct us hl => (match us, hl with | [_, _], _ => rfl), fun h => absurd rfl h⟩
theorem b25 : BindOk d25 i25 := ⟨fun _ kV doc pm an cdv ct us hl => (match us, hl with | [_, _], _ => rfl), fun h => absurd rfl h⟩
theorem b26 : BindOk d26 i26 := ⟨fun _ kV doc pm an cdv ct us hl => (match us, hl with | [_, _], _ => rfl), fun h => absurd rfl h⟩
theorem b27 : BindOk d27 i27 := ⟨fun _ kV doc pm an cdv ct us hl => (match us, hl with | [_, _, _, _], _ => rfl), fun h => absurd rfl h⟩
theorem b28 : BindOk d28 i28 := ⟨fun h => (nomatch h), fun _ n h1 h2 T kV doc pm an cdv ct us its hl hi => by
    have h1 : n ≤ 4 := h1
    have h2 : 4 - n ≤ 1 := h2
    obtain h | h : n = 3 ∨ n = 4 := by omega
    · subst h; exact (match us, hl, its, hi with | [_, _, _], _, [_], _ => ⟨_, rfl, rfl⟩)
    · subst h; exact (match us, hl, its, hi with | [_, _, _, _], _, [_], _ => ⟨_, rfl, rfl⟩)⟩
theorem b29 : BindOk d29 i29 := ⟨fun _ kV doc pm an cdv ct us hl => (match us, hl with | [_], _ => rfl), fun h => absurd rfl h⟩
theorem b30 : BindOk d30 i30 := ⟨fun _ kV doc pm an cdv ct us hl => (match us, hl with | [_, _], _ => rfl), fun h => absurd rfl h⟩
theorem b31 : BindOk d31 i31 := ⟨fun _ kV doc pm an cdv ct us hl => (match us, hl with | [_, _], _ => rfl), fun h => absurd rfl h⟩
theorem b32 : BindOk d32 i32 := ⟨fun _ kV doc pm an cdv ct us hl => (match us, hl with | [_], _ => rfl), fun h => absurd rfl h⟩
theorem b33 : BindOk d33 i33 := ⟨fun _ kV doc pm an cdv ct us hl => (match us, hl with | [_, _], _ => rfl), fun h => absurd rfl h⟩
theorem b34 : BindOk d34 i34 := ⟨fun _ kV doc pm an cdv ct us hl => (match us, hl with | [_, _], _ => rfl), fun h => absurd rfl h⟩
theorem b35 : BindOk d35 i35 := ⟨fun _ kV doc pm an cdv ct us hl => (match us, hl with | [_], _ => rfl), fun h => absurd rfl h⟩
theorem b36 : BindOk d36 i36 := ⟨fun _ kV doc pm an cdv ct us hl => (match us, hl with | [_], _ => rfl), fun h => absurd rfl h⟩
theorem b37 : BindOk d37 i37 := ⟨fun _ kV doc pm an cdv ct us hl => (match us, hl with | [_], _ => rfl), fun h => absurd rfl h⟩
theorem b38 : BindOk d38 i38 := ⟨fun _ kV doc pm an cdv ct us hl => (match us, hl with | [_], _ => rfl), fun h => absurd rfl h⟩
theorem b39 : BindOk d39 i39 := ⟨fun _ kV doc pm an cdv ct us hl => (match us, hl with | [_, _], _ => rfl), fun h => absurd rfl h⟩
theorem b40 : BindOk d40 i40 := ⟨fun _ kV doc pm an cdv ct us hl => (match us, hl with | [_], _ => rfl), fun h => absurd rfl h⟩
theorem b41 : BindOk d41 i41 := ⟨fun _ kV doc pm an cdv ct us hl => (match us, hl with | [_, _], _ => rfl), fun h => absurd rfl h⟩
theorem b42 : BindOk d42 i42 := ⟨fun _ kV doc pm an cdv ct us hl => (match us, hl with | [_, _, _], _ => rfl), fun h => absurd rfl h⟩
theorem b43 : BindOk d43 i43 := ⟨fun _ kV doc pm an cdv ct us hl => (match us, hl with | [_], _ => rfl), fun h => absurd rfl h⟩
theorem b44 : BindOk d44 i44 := ⟨fun _ kV doc pm an cdv ct us hl => (match us, hl with | [_], _ => rfl), fun h => absurd rfl h⟩
theorem b45 : BindOk d45 i45 := ⟨fun _ kV doc pm an cdv ct us hl => (match us, hl with | [_], _ => rfl), fun h => absurd rfl h⟩
theorem b46 : BindOk d46 i46 := ⟨fun _ kV doc pm an cdv ct us hl => (match us, hl with | [_, _], _ => rfl), fun h => absurd rfl h⟩
theorem b47 : BindOk d47 i47 := ⟨fun _ kV doc pm an cdv ct us hl => (match us, hl with | [_], _ => rfl), fun h => absurd rfl h⟩
theorem tabOk : TabOk wt dis where
  fns := rfl
  def_ := fun f d i h1 h2 => by
    match f, h1, h2 with
    | 0, h1, h2 => cases h1; cases h2; exact ⟨rfl, rfl, by decide +kernel, b0⟩
    | 1, h1, h2 => cases h1; cases h2; exact ⟨rfl, rfl, by decide +kernel, b1⟩
    | 2, h1, h2 => cases h1; cases h2; exact ⟨rfl, rfl, by decide +kernel, b2⟩
    | 3, h1, h2 => cases h1; cases h2; exact ⟨rfl, rfl, by decide +kernel, b3⟩
    | 4, h1, h2 => cases h1; cases h2; exact ⟨rfl, rfl, by decide +kernel, b4⟩
    | 5, h1, h2 => cases h1; cases h2; exact ⟨rfl, rfl, by decide +kernel, b5⟩
    | 6, h1, h2 => cases h1; cases h2; exact ⟨rfl, rfl, by decide +kernel, b6⟩
    | 7, h1, h2 => cases h1; cases h2; exact ⟨rfl, rfl, by decide +kernel, b7⟩
    | 8, h1, h2 => cases h1; cases h2; exact ⟨rfl, rfl, by decide +kernel, b8⟩
    | 9, h1, h2 => cases h1; cases h2; exact ⟨rfl, rfl, by decide +kernel, b9⟩
    | 10, h1, h2 => cases h1; cases h2; exact ⟨rfl, rfl, by decide +kernel, b10⟩
    | 11, h1, h2 => cases h1; cases h2; exact ⟨rfl, rfl, by decide +kernel, b11⟩
    | 12, h1, h2 => cases h1; cases h2; exact ⟨rfl, rfl, by decide +kernel, b12⟩
    | 13, h1, h2 => cases h1; cases h2; exact ⟨rfl, rfl, by decide +kernel, b13⟩
    | 14, h1, h2 => cases h1; cases h2; exact ⟨rfl, rfl, by decide +kernel, b14⟩
    | 15, h1, h2 => cases h1; cases h2; exact ⟨rfl, rfl, by decide +kernel, b15⟩
    | 16, h1, h2 => cases h1; cases h2; exact ⟨rfl, rfl, by decide +kernel, b16⟩
    | 17, h1, h2 => cases h1; cases h2; exact ⟨rfl, rfl, by decide +kernel, b17⟩
    | 18, h1, h2 => cases h1; cases h2; exact ⟨rfl, rfl, by decide +kernel, b18⟩
    | 19, h1, h2 => cases h1; cases h2; exact ⟨rfl, rfl, by decide +kernel, b19⟩
    | 20, h1, h2 => cases h1; cases h2; exact ⟨rfl, rfl, by decide +kernel, b20⟩
    | 21, h1, h2 => cases h1; cases h2; exact ⟨rfl, rfl, by decide +kernel, b21⟩
    | 22, h1, h2 => cases h1; cases h2; exact ⟨rfl, rfl, by decide +kernel, b22⟩
    | 23, h1, h2 => cases h1; cases h2; exact ⟨rfl, rfl, by decide +kernel, b23⟩
    | 24, h1, h2 => cases h1; cases h2; exact ⟨rfl, rfl, by decide +kernel, b24⟩
    | 25, h1, h2 => cases h1; cases h2; exact ⟨rfl, rfl, by decide +kernel, b25⟩
    | 26, h1, h2 => cases h1; cases h2; exact ⟨rfl, rfl, by decide +kernel, b26⟩
    | 27, h1, h2 => cases h1; cases h2; exact ⟨rfl, rfl, by decide +kernel, b27⟩
    | 28, h1, h2 => cases h1; cases h2; exact ⟨rfl, rfl, by decide +kernel, b28⟩
    | 29, h1, h2 => cases h1; cases h2; exact ⟨rfl, rfl, by decide +kernel, b29⟩
    | 30, h1, h2 => cases h1; cases h2; exact ⟨rfl, rfl, by decide +kernel, b30⟩
    | 31, h1, h2 => cases h1; cases h2; exact ⟨rfl, rfl, by decide +kernel, b31⟩
    | 32, h1, h2 => cases h1; cases h2; exact ⟨rfl, rfl, by decide +kernel, b32⟩
    | 33, h1, h2 => cases h1; cases h2; exact ⟨rfl, rfl, by decide +kernel, b33⟩
    | 34, h1, h2 => cases h1; cases h2; exact ⟨rfl, rfl, by decide +kernel, b34⟩
    | 35, h1, h2 => cases h1; cases h2; exact ⟨rfl, rfl, by decide +kernel, b35⟩
    | 36, h1, h2 => cases h1; cases h2; exact ⟨rfl, rfl, by decide +kernel, b36⟩
    | 37, h1, h2 => cases h1; cases h2; exact ⟨rfl, rfl, by decide +kernel, b37⟩
    | 38, h1, h2 => cases h1; cases h2; exact ⟨rfl, rfl, by decide +kernel, b38⟩
    | 39, h1, h2 => cases h1; cases h2; exact ⟨rfl, rfl, by decide +kernel, b39⟩
    | 40, h1, h2 => cases h1; cases h2; exact ⟨rfl, rfl, by decide +kernel, b40⟩
    | 41, h1, h2 => cases h1; cases h2; exact ⟨rfl, rfl, by decide +kernel, b41⟩
    | 42, h1, h2 => cases h1; cases h2; exact ⟨rfl, rfl, by decide +kernel, b42⟩
    | 43, h1, h2 => cases h1; cases h2; exact ⟨rfl, rfl, by decide +kernel, b43⟩
    | 44, h1, h2 => cases h1; cases h2; exact ⟨rfl, rfl, by decide +kernel, b44⟩
    | 45, h1, h2 => cases h1; cases h2; exact ⟨rfl, rfl, by decide +kernel, b45⟩
    | 46, h1, h2 => cases h1; cases h2; exact ⟨rfl, rfl, by decide +kernel, b46⟩
    | 47, h1, h2 => cases h1; cases h2; exact ⟨rfl, rfl, by decide +kernel, b47⟩
    | n + 48, h1, h2 => cases h1
  nm := by decide +kernel
  mkc := by decide +kernel
theorem lite (K : PySem.W.Frag) : obsW wt K = obsW wh K := obsW_lite K rfl rfl rfl rfl rfl rfl rfl
end K67

set_option Elab.async false
set_option linter.all false
set_option maxRecDepth 100000
set_option maxHeartbeats 0
open PySem PySem.W PySem.Calls PyProof.Rows
theorem PySem.Challenge.cw_similarroads_k67_square_matrices_holds : PySem.Challenge.rw_similarroads_k67_square_matrices.Holds := by
  w_on; o_law
  refine HandSHeadRun.head_imp (r := OpenLaw.row PySem.Challenge.rw_similarroads_k67_square_matrices) (q := view (OpenLaw.row PySem.Challenge.rw_similarroads_k67_square_matrices).prog [0, 38]) (H := K67.hk) (ob := K67.ob) (M := 40000) (loose := K67.loose) (d := HandSHeadRun.topDef (OpenLaw.row PySem.Challenge.rw_similarroads_k67_square_matrices).prog 38) (kwd := []) K67.ob_eq K67.head_run (by kernel_rfl) (by kernel_rfl) (by kernel_rfl) (by rfl) (by first | assumption | decide +kernel) (by decide +kernel) ⟨rfl, rfl, rfl, rfl, rfl, by decide +kernel⟩ ?hw ?hc
  case hw => w_witness2
  case hc => exact Sd.law_walk (l := PySem.Challenge.rw_similarroads_k67_square_matrices) (n := 6) (t' := K67.wh) K67.wt K67.lite rfl K67.dis K67.tabOk (f := 47) (j := K67.depth) rfl (by kernel_rfl) ⟨rfl, by decide, by decide⟩ (by kernel_rfl) rfl rfl rfl rfl rfl K67.law_runs

