import PyProof.Rows.All
import PySem.Syntax
import HandS.ForMost
import HandS.TupLe
import HandS.TupAny
import HandS.TupMul
import HandS.IsInst
import HandS.Style
import HandS.Flow
import PySem.Challenge.RW_roundshapes_k75_cuts_mended
import Wide.FinOn
set_option linter.all false
set_option maxRecDepth 100000
/-! The engine: a small language of values, and what its texts compute (no heap, no positions). -/
namespace RS
open PySem (Str)

inductive PV where
  | non | bl (b : Bool) | int (i : Int) | str (s : Str) | tup (xs : List PV) | lst (xs : List PV) | scr (ns : List Int)
deriving Inhabited

inductive Cell where
  | lst (xs : List PV)
def Cell.pv : Cell → PV
  | .lst xs => .lst xs

inductive Val where
  | pv (v : PV) | loc (l : Nat) | new (c : Cell)
abbrev Env := List (Option Val)
abbrev Sto := List Cell

inductive Out (α : Type) where
  | ok (a : α) | bad
@[reducible] def Out.bind {α β : Type} (x : Out α) (f : α → Out β) : Out β :=
  match x with
  | .ok a => f a
  | .bad => .bad
instance : Monad Out where
  pure := .ok
  bind := Out.bind
@[simp] theorem ok_bind {α β : Type} (a : α) (f : α → Out β) : (Out.ok a >>= f) = f a := rfl
@[simp] theorem bad_bind {α β : Type} (f : α → Out β) : (Out.bad >>= f) = .bad := rfl
theorem bind_ok {α β : Type} {x : Out α} {f : α → Out β} {b : β} (h : (x >>= f) = .ok b) : ∃ a, x = .ok a ∧ f a = .ok b := by
  cases x with
  | ok a => exact ⟨a, rfl, h⟩
  | bad => cases h
@[reducible] def ofO {α : Type} : Option α → Out α
  | some a => .ok a
  | none => .bad
@[simp] theorem ofO_some {α : Type} (a : α) : ofO (some a) = .ok a := rfl
@[simp] theorem ofO_none {α : Type} : ofO (none : Option α) = .bad := rfl
theorem ofO_ok {α : Type} {x : Option α} {a : α} (h : ofO x = .ok a) : x = some a := by
  cases x with
  | some b => cases h; rfl
  | none => cases h

/-! ### the pure operations -/
inductive Ty where
  | bool | int | str | tuple | list
deriving DecidableEq
inductive Op1 where
  | neg | not | isNon | notNon | len | tuple | list | int | sum | max | min | abs | all | any | isi (t : Ty)
deriving DecidableEq
inductive Op2 where
  | add | sub | mul | fdiv | fmod | pow | eq | ne | lt | le | gt | ge | isIn | notIn | idx | min | max
deriving DecidableEq

def line : Nat := 16777216
def intsOf : List PV → Option (List Int)
  | [] => some []
  | .int i :: r => (intsOf r).map (i :: ·)
  | _ :: _ => none
def blsOf : List PV → Option (List Bool)
  | [] => some []
  | .bl i :: r => (blsOf r).map (i :: ·)
  | _ :: _ => none
def truthy : PV → Bool
  | .non => false
  | .bl b => b
  | .int i => i != 0
  | .str s => s.cps.size != 0
  | .tup xs => !xs.isEmpty
  | .lst xs => !xs.isEmpty
  | .scr xs => !xs.isEmpty
def trOk : PV → Bool
  | .str s => decide (s.cps.size ≤ line)
  | _ => true
def pyTy : PV → Option String
  | .non => some "NoneType"
  | .bl _ => some "bool"
  | .int _ => some "int"
  | .str _ => some "str"
  | .tup _ => some "tuple"
  | .lst _ => some "list"
  | .scr _ => none
def Ty.name : Ty → String
  | .bool => "bool"
  | .int => "int"
  | .str => "str"
  | .tuple => "tuple"
  | .list => "list"
def isTy : Ty → PV → Option Bool
  | _, .scr _ => none
  | .bool, .bl _ => some true
  | .int, .bl _ => some true
  | .int, .int _ => some true
  | .str, .str _ => some true
  | .tuple, .tup _ => some true
  | .list, .lst _ => some true
  | _, _ => some false
def lexLt : List Int → List Int → Bool
  | _, [] => false
  | [], _ :: _ => true
  | x :: xs, y :: ys => if x = y then lexLt xs ys else decide (x < y)
def lexLe : List Int → List Int → Bool
  | [], _ => true
  | _ :: _, [] => false
  | x :: xs, y :: ys => if x = y then lexLe xs ys else decide (x < y)
def maxI : List Int → Option Int
  | [] => none
  | x :: xs => some (xs.foldl max x)
def minI : List Int → Option Int
  | [] => none
  | x :: xs => some (xs.foldl min x)
/-- a place of a row, from behind if negative -/
def ixAt {α : Type} (xs : List α) (i : Int) : Option α :=
  if 0 ≤ i then xs[i.toNat]? else if -(xs.length : Int) ≤ i then xs[(i + xs.length).toNat]? else none
def sIx (n d : Nat) : Option Int → Nat
  | none => d
  | some v => if v < 0 then (v + (n : Int)).toNat else min v.toNat n
def cut {α : Type} (xs : List α) (lo hi : Option Int) : List α := (xs.drop (sIx xs.length 0 lo)).take (sIx xs.length xs.length hi - sIx xs.length 0 lo)
/- == of data -/
mutual
def eqv : PV → PV → Bool
  | .non, .non => true
  | .bl a, .bl b => a == b
  | .bl a, .int j => (if a then 1 else 0) == j
  | .int i, .bl b => i == (if b then 1 else 0)
  | .int i, .int j => i == j
  | .str x, .str y => x == y
  | .lst xs, .lst ys => eqvs xs ys
  | .tup xs, .tup ys => eqvs xs ys
  | _, _ => false
def eqvs : List PV → List PV → Bool
  | [], [] => true
  | x :: xs, y :: ys => eqv x y && eqvs xs ys
  | _, _ => false
end
/-- not too deep, no odd text, no script within -/
def shal : Nat → PV → Bool
  | _, .non => true
  | _, .bl _ => true
  | _, .int _ => true
  | _, .str s => s.cps.all (· < 0x110000)
  | _, .scr _ => false
  | 0, .tup _ => false
  | 0, .lst _ => false
  | n + 1, .tup xs => xs.all (shal n)
  | n + 1, .lst xs => xs.all (shal n)
def flat : PV → Bool
  | .non => true
  | .bl _ => true
  | .int _ => true
  | .str _ => true
  | _ => false
def rowOf : PV → Option (List PV)
  | .tup xs => some xs
  | .lst xs => some xs
  | .scr ns => some (ns.map .int)
  | _ => none
def opIn (x : PV) (y : PV) : Option Bool := do
  let xs ← rowOf y
  if flat x && xs.all flat then some (xs.any fun z => eqv z x) else none
def big (i : Int) : Bool := decide (-(2 ^ 64) < i) && decide (i < 2 ^ 64)
def cmpI (f : Int → Int → Bool) (g : List Int → List Int → Bool) : PV → PV → Option PV
  | .int i, .int j => some (.bl (f i j))
  | .tup xs, .tup ys => do
    let a ← intsOf xs
    let b ← intsOf ys
    some (.bl (g a b))
  | _, _ => none

def isN : PV → Bool
  | .non => true
  | _ => false
def op1 : Op1 → PV → Option PV
  | .neg, .int i => some (.int (-i))
  | .abs, .int i => some (.int (if i < 0 then -i else i))
  | .not, p => if trOk p then some (.bl (!truthy p)) else none
  | .isNon, p => some (.bl (isN p))
  | .notNon, p => some (.bl (!isN p))
  | .len, .str s => if s.cps.size ≤ line then some (.int s.cps.size) else none
  | .len, p => (rowOf p).map fun xs => .int xs.length
  | .tuple, p => (rowOf p).map .tup
  | .list, p => (rowOf p).map .lst
  | .int, .int i => some (.int i)
  | .int, .bl b => some (.int (if b then 1 else 0))
  | .sum, .lst xs => (intsOf xs).map fun ns => .int ns.sum
  | .max, .lst xs => (intsOf xs).bind fun ns => (maxI ns).map .int
  | .min, .lst xs => (intsOf xs).bind fun ns => (minI ns).map .int
  | .all, .lst xs => (blsOf xs).map fun bs => .bl (bs.all id)
  | .any, .lst xs => (blsOf xs).map fun bs => .bl (bs.any id)
  | .isi t, p => (isTy t p).map .bl
  | _, _ => none

def opAdd : PV → PV → Option PV
  | .int i, .int j => some (.int (i + j))
  | .tup xs, .tup ys => if xs.length + ys.length ≤ line then some (.tup (xs ++ ys)) else none
  | .lst xs, .lst ys => if xs.length + ys.length ≤ line then some (.lst (xs ++ ys)) else none
  | .str x, .str y => if x.cps.size + y.cps.size ≤ line then some (.str ⟨x.cps ++ y.cps⟩) else none
  | _, _ => none
def opMul : PV → PV → Option PV
  | .int i, .int j => if big i || big j then some (.int (i * j)) else none
  | .tup xs, .int k => if !xs.isEmpty && decide (1 ≤ k) && decide (k ≤ 1000) && decide (xs.length ≤ 1000) then some (.tup (List.replicate k.toNat xs).flatten) else none
  | .lst xs, .int k => if decide (-(2 ^ 63) ≤ k) && decide (k < 2 ^ 63) && decide (xs.length * k.toNat ≤ line) then some (.lst (List.replicate k.toNat xs).flatten) else none
  | _, _ => none
def opEq (x y : PV) : Option Bool :=
  match x, y with
  | .str a, .str b => some (a == b)
  | x, y => if shal 60 x && shal 60 y then some (eqv x y) else none
def opIdx : PV → PV → Option PV
  | .tup xs, .int i => ixAt xs i
  | .lst xs, .int i => ixAt xs i
  | _, _ => none
def op2 : Op2 → PV → PV → Option PV
  | .add, x, y => opAdd x y
  | .sub, .int i, .int j => some (.int (i - j))
  | .mul, x, y => opMul x y
  | .fdiv, .int i, .int j => if j ≠ 0 ∧ j.natAbs < 1073741824 then some (.int (i.fdiv j)) else none
  | .fmod, .int i, .int j => if j ≠ 0 then some (.int (i.fmod j)) else none
  | .pow, .int i, .int j => if 0 ≤ j ∧ j ≤ 1000000 ∧ i.natAbs < 2 ^ 64 then some (.int (i ^ j.toNat)) else none
  | .eq, x, y => (opEq x y).map .bl
  | .ne, x, y => (opEq x y).map fun b => .bl (!b)
  | .lt, x, y => cmpI (fun i j => decide (i < j)) lexLt x y
  | .le, x, y => cmpI (fun i j => decide (i ≤ j)) lexLe x y
  | .gt, .int i, .int j => some (.bl (decide (j < i)))
  | .ge, .int i, .int j => some (.bl (decide (j ≤ i)))
  | .isIn, x, y => (opIn x y).map .bl
  | .notIn, x, y => (opIn x y).map fun b => .bl (!b)
  | .idx, x, y => opIdx x y
  | .max, .int i, .int j => some (.int (if j > i then j else i))
  | .min, .int i, .int j => some (.int (if j < i then j else i))
  | _, _, _ => none
def opSl (x : PV) (lo hi : Option Int) : Option PV :=
  match x with
  | .tup xs => some (.tup (cut xs lo hi))
  | .lst xs => some (.lst (cut xs lo hi))
  | _ => none
/-- what comes as a new list -/
def fresh : PV → Val
  | .lst xs => .new (.lst xs)
  | p => .pv p
def Op2.res : Op2 → PV → Val
  | .idx, p => .pv p
  | _, p => fresh p

/-! ### the texts -/
inductive Mt where
  | append | pop | popAt | reverse
deriving DecidableEq
inductive Tg where
  | name (i : Nat)
  | tup (is : List Nat)
mutual
inductive Ex where
  | var (i : Nat)
  | cst (p : PV)
  | tup (es : Exs)
  | lst (es : Exs)
  | op1 (o : Op1) (a : Ex)
  | op2 (o : Op2) (a b : Ex)
  | slc (a : Ex) (lo hi : Exs)
  | and (a b : Ex)
  | or (a b : Ex)
  | ite (c a b : Ex)
  | chain (o o' : Op2) (a b c : Ex)
  | comp (vs : List Nat) (tg : Tg) (it : It) (cond : Exs) (elt : Ex)
  | call (f : Nat) (es : Exs)
  | box (e : Ex)
  | mut (m : Mt) (o : Ex) (es : Exs)
inductive Exs where
  | nil
  | cons (e : Ex) (r : Exs)
inductive It where
  | ex (e : Ex)
  | rng (es : Exs)
end
mutual
inductive Stm where
  | set (t : Tg) (e : Ex)
  | par (is : List Nat) (es : Exs)
  | aug (i : Nat) (o : Op2) (e : Ex)
  | seti (o i e : Ex)
  | exp (e : Ex)
  | ret (e : Ex)
  | retN
  | ifs (c : Ex) (a b : Blk)
  | whl (c : Ex) (b : Blk)
  | for_ (t : Tg) (it : It) (b : Blk)
  | pass
  | brk
  | cont
inductive Blk where
  | nil
  | cons (s : Stm) (r : Blk)
end
structure Fn where
  np : Nat
  ns : Nat
  body : Blk

/-! ### what they compute -/
def rd (S : Sto) : Val → Out PV
  | .pv p => .ok p
  | .loc l => match S[l]? with
    | some c => .ok c.pv
    | none => .bad
  | .new c => .ok c.pv
def norm : Val → Val
  | .new c => .pv c.pv
  | v => v
def item : Val → Out PV
  | .pv p => .ok p
  | .new c => .ok c.pv
  | .loc _ => .bad
def items : List Val → Out (List PV)
  | [] => .ok []
  | v :: r => do
    let p ← item v
    let ps ← items r
    .ok (p :: ps)
def getv (ρ : Env) (i : Nat) : Out Val :=
  match ρ[i]? with
  | some (some v) => .ok v
  | _ => .bad
def setvs : List Nat → List Val → Env → Env
  | i :: is, v :: vs, ρ => setvs is vs (ρ.set i (some v))
  | _, _, ρ => ρ
def bindT (S : Sto) : Tg → Val → Env → Out Env
  | .name i, v, ρ => .ok (ρ.set i (some v))
  | .tup is, v, ρ => do
    let p ← rd S v
    match p with
    | .tup xs => if xs.length = is.length then .ok (setvs is (xs.map .pv) ρ) else .bad
    | _ => .bad
def wipe (ρ : Env) : List Nat → Env
  | [] => ρ
  | v :: vs => (wipe ρ vs).set v none
def rangeI (lo hi : Int) : List Int := (List.range (hi - lo).toNat).map fun (i : Nat) => lo + i
def okR (i : Int) : Bool := decide (-(2 ^ 62) ≤ i) && decide (i < 2 ^ 62)
def opRng : List PV → Out (List PV)
  | [.int j] => if okR j then .ok ((rangeI 0 j).map .int) else .bad
  | [.int i, .int j] => if okR i && okR j then .ok ((rangeI i j).map .int) else .bad
  | _ => .bad
def iterOf (S : Sto) : Val → Out (List PV × Option Nat)
  | .pv p => do let xs ← ofO (rowOf p); .ok (xs, none)
  | .new c => do let xs ← ofO (rowOf c.pv); .ok (xs, none)
  | .loc l => match S[l]? with
    | some (.lst xs) => .ok (xs, some l)
    | none => .bad
/-- the list that is walked stands as it did -/
def still (src : Option Nat) (xs : List PV) (S : Sto) : Prop :=
  match src with
  | none => True
  | some l => S[l]? = some (.lst xs)
@[simp] theorem still_none (xs : List PV) (S : Sto) : still none xs S = True := rfl
def mutOp (S : Sto) : Mt → Val → List PV → Out (Val × Sto)
  | .append, .loc l, [p] => match S[l]? with
    | some (.lst xs) => if xs.length < line then .ok (.pv .non, S.set l (.lst (xs ++ [p]))) else .bad
    | none => .bad
  | .pop, .loc l, [] => match S[l]? with
    | some (.lst xs) => (match xs[xs.length - 1]? with
      | some y => .ok (.pv y, S.set l (.lst xs.dropLast))
      | none => .bad)
    | none => .bad
  | .popAt, .loc l, [.int i] => match S[l]? with
    | some (.lst xs) => if 0 ≤ i ∧ i < 2 ^ 62 then (match xs[i.toNat]? with
      | some y => .ok (.pv y, S.set l (.lst (xs.eraseIdx i.toNat)))
      | none => .bad) else .bad
    | none => .bad
  | .reverse, .loc l, [] => match S[l]? with
    | some (.lst xs) => .ok (.pv .non, S.set l (.lst xs.reverse))
    | none => .bad
  | _, _, _ => .bad

inductive Flow where
  | nx | bk | ct | rt (v : Val)

open Classical in
noncomputable def loopC (f : PV → Sto → Out (Option PV × Sto)) (src : Option Nat) (all : List PV) : List PV → Sto → Out (List PV × Sto)
  | [], S => if still src all S then .ok ([], S) else .bad
  | x :: r, S => if still src all S then do
      let (o, S1) ← f x S
      let (ys, S2) ← loopC f src all r S1
      .ok (o.toList ++ ys, S2)
    else .bad
open Classical in
noncomputable def loopF (f : PV → Env → Sto → Out (Flow × Env × Sto)) (src : Option Nat) (all : List PV) : List PV → Env → Sto → Out (Flow × Env × Sto)
  | [], ρ, S => if still src all S then .ok (.nx, ρ, S) else .bad
  | x :: r, ρ, S => if still src all S then do
      let (fl, ρ1, S1) ← f x ρ S
      match fl with
      | .nx => loopF f src all r ρ1 S1
      | .ct => loopF f src all r ρ1 S1
      | .bk => .ok (.nx, ρ1, S1)
      | .rt v => .ok (.rt v, ρ1, S1)
    else .bad

/-- a turn of a while: on, or done -/
abbrev Turn := Env × Sto → Out ((Env × Sto) ⊕ (Flow × Env × Sto))
def runN (f : Turn) : Nat → Env × Sto → Option (Out (Flow × Env × Sto))
  | 0, _ => none
  | n + 1, s => match f s with
    | .ok (.inl s') => runN f n s'
    | .ok (.inr r) => some (.ok r)
    | .bad => some .bad
open Classical in
noncomputable def loopW (f : Turn) (s : Env × Sto) : Out (Flow × Env × Sto) :=
  if h : ∃ n, (runN f n s).isSome then (runN f (Classical.choose h) s).getD .bad else .bad
theorem runN_mono (f : Turn) : ∀ (n m : Nat) (s : Env × Sto) r, runN f n s = some r → n ≤ m → runN f m s = some r
  | 0, _, _, _, h, _ => by cases h
  | n + 1, 0, _, _, _, hm => by omega
  | n + 1, m + 1, s, r, h, hm => by
    unfold runN at h ⊢
    split at h
    · exact runN_mono f n m _ r h (by omega)
    · exact h
    · exact h
theorem loopW_of {f : Turn} {n : Nat} {s : Env × Sto} {r} (h : runN f n s = some r) : loopW f s = r := by
  have hx : ∃ n, (runN f n s).isSome := ⟨n, by rw [h]; rfl⟩
  unfold loopW
  rw [dif_pos hx]
  have hc := Classical.choose_spec hx
  generalize Classical.choose hx = k at hc
  cases e : runN f k s with
  | none => rw [e] at hc; cases hc
  | some q =>
    have e1 := runN_mono f k (max k n) s q e (by omega)
    have e2 := runN_mono f n (max k n) s r h (by omega)
    rw [e1] at e2
    cases e2
    rfl
theorem loopW_eq (f : Turn) (s : Env × Sto) : loopW f s = match f s with
    | .ok (.inl s') => loopW f s'
    | .ok (.inr r) => .ok r
    | .bad => .bad := by
  cases e : f s with
  | bad => exact loopW_of (n := 1) (by unfold runN; rw [e])
  | ok x =>
    cases x with
    | inr r => exact loopW_of (n := 1) (by unfold runN; rw [e])
    | inl s' =>
      simp only
      by_cases hx : ∃ n, (runN f n s').isSome
      · obtain ⟨n, hn⟩ := hx
        cases e2 : runN f n s' with
        | none => rw [e2] at hn; cases hn
        | some q =>
          rw [loopW_of e2]
          exact loopW_of (n := n + 1) (by unfold runN; rw [e]; exact e2)
      · have hy : ¬ ∃ n, (runN f n s).isSome := by
          rintro ⟨n, hn⟩
          cases n with
          | zero => cases hn
          | succ n => unfold runN at hn; rw [e] at hn; exact hx ⟨n, hn⟩
        unfold loopW
        rw [dif_neg hx, dif_neg hy]
/-- what comes of a while comes in some number of turns -/
theorem loopW_ok {f : Turn} {s : Env × Sto} {r} (h : loopW f s = .ok r) : ∃ n, runN f n s = some (.ok r) := by
  unfold loopW at h
  split at h
  · rename_i hx
    have hc := Classical.choose_spec hx
    generalize Classical.choose hx = k at hc h
    cases e : runN f k s with
    | none => rw [e] at hc; cases hc
    | some q => rw [e] at h; exact ⟨k, by rw [e]; exact congrArg some h⟩
  · cases h

section
variable (cf : Nat → List Val → Sto → Out (Val × Sto))
mutual
noncomputable def evalE : Ex → Env → Sto → Out (Val × Sto)
  | .var i, ρ, S => do
    let v ← getv ρ i
    .ok (v, S)
  | .cst p, _, S => .ok (.pv p, S)
  | .tup es, ρ, S => do
    let (vs, S) ← evalEs es ρ S
    let ps ← items vs
    if ps.length ≤ line then .ok (.pv (.tup ps), S) else .bad
  | .lst es, ρ, S => do
    let (vs, S) ← evalEs es ρ S
    let ps ← items vs
    if ps.length ≤ line then .ok (.new (.lst ps), S) else .bad
  | .op1 o a, ρ, S => do
    let (v, S) ← evalE a ρ S
    let p ← rd S v
    let r ← ofO (op1 o p)
    .ok (fresh r, S)
  | .op2 o a b, ρ, S => do
    let (v, S) ← evalE a ρ S
    let (u, S) ← evalE b ρ S
    let p ← rd S v
    let q ← rd S u
    let r ← ofO (op2 o p q)
    .ok (o.res r, S)
  | .slc a lo hi, ρ, S => do
    let (v, S) ← evalE a ρ S
    let (l, S) ← evalO lo ρ S
    let (h, S) ← evalO hi ρ S
    let p ← rd S v
    let r ← ofO (opSl p l h)
    .ok (fresh r, S)
  | .and a b, ρ, S => do
    let (v, S) ← evalE a ρ S
    let p ← rd S v
    if trOk p then (if truthy p then evalE b ρ S else .ok (norm v, S)) else .bad
  | .or a b, ρ, S => do
    let (v, S) ← evalE a ρ S
    let p ← rd S v
    if trOk p then (if truthy p then .ok (norm v, S) else evalE b ρ S) else .bad
  | .ite c a b, ρ, S => do
    let (v, S) ← evalE c ρ S
    let p ← rd S v
    if trOk p then (if truthy p then evalE a ρ S else evalE b ρ S) else .bad
  | .chain o o' a b c, ρ, S => do
    let (v, S) ← evalE a ρ S
    let (u, S) ← evalE b ρ S
    let p ← rd S v
    let q ← rd S u
    let r ← ofO (op2 o p q)
    match r with
    | .bl true => do
      let (w, S) ← evalE c ρ S
      let q ← rd S u
      let t ← rd S w
      let r ← ofO (op2 o' q t)
      .ok (o'.res r, S)
    | .bl false => .ok (.pv (.bl false), S)
    | _ => .bad
  | .comp vs tg it cond elt, ρ, S => do
    let (xs, src, S) ← evalIt it ρ S
    let (ys, S) ← loopC (fun x S => do
      let ρ1 ← bindT S tg (.pv x) (wipe ρ vs)
      let (b, S) ← evalCs cond ρ1 S
      if b then do
        let (v, S) ← evalE elt ρ1 S
        let p ← item v
        .ok (some p, S)
      else .ok (none, S)) src xs xs S
    if ys.length ≤ line then .ok (.new (.lst ys), S) else .bad
  | .call f es, ρ, S => do
    let (vs, S) ← evalEs es ρ S
    cf f vs S
  | .box e, ρ, S => do
    let (v, S) ← evalE e ρ S
    match v with
    | .new c => .ok (.loc S.length, S ++ [c])
    | .loc l => .ok (.loc l, S)
    | .pv _ => .bad
  | .mut m o es, ρ, S => do
    let (v, S) ← evalE o ρ S
    let (vs, S) ← evalEs es ρ S
    let ps ← items vs
    mutOp S m v ps
noncomputable def evalEs : Exs → Env → Sto → Out (List Val × Sto)
  | .nil, _, S => .ok ([], S)
  | .cons e r, ρ, S => do
    let (v, S) ← evalE e ρ S
    let (vs, S) ← evalEs r ρ S
    .ok (norm v :: vs, S)
/-- a part of a slice, left out or there -/
noncomputable def evalO : Exs → Env → Sto → Out (Option Int × Sto)
  | .nil, _, S => .ok (none, S)
  | .cons e _, ρ, S => do
    let (v, S) ← evalE e ρ S
    match v with
    | .pv (.int i) => .ok (some i, S)
    | _ => .bad
/-- the tests of a clause, at most one -/
noncomputable def evalCs : Exs → Env → Sto → Out (Bool × Sto)
  | .nil, _, S => .ok (true, S)
  | .cons e _, ρ, S => do
    let (v, S) ← evalE e ρ S
    let p ← rd S v
    if trOk p then .ok (truthy p, S) else .bad
noncomputable def evalIt : It → Env → Sto → Out (List PV × Option Nat × Sto)
  | .ex e, ρ, S => do
    let (v, S) ← evalE e ρ S
    let (xs, src) ← iterOf S v
    .ok (xs, src, S)
  | .rng es, ρ, S => do
    let (vs, S) ← evalEs es ρ S
    let ps ← items vs
    let xs ← opRng ps
    .ok (xs, none, S)
end
mutual
noncomputable def evalS : Stm → Env → Sto → Out (Flow × Env × Sto)
  | .set t e, ρ, S => do
    let (v, S) ← evalE cf e ρ S
    let ρ ← bindT S t (norm v) ρ
    .ok (.nx, ρ, S)
  | .par is es, ρ, S => do
    let (vs, S) ← evalEs cf es ρ S
    if vs.length = is.length then .ok (.nx, setvs is vs ρ, S) else .bad
  | .aug i o e, ρ, S => do
    let v ← getv ρ i
    let (u, S) ← evalE cf e ρ S
    match v with
    | .pv p => do
      let q ← rd S u
      let r ← ofO (op2 o p q)
      (match r with
      | .lst _ => .bad
      | _ => .ok (.nx, ρ.set i (some (.pv r)), S))
    | .loc l => (match S[l]?, u with
      | some (.lst xs), .pv (.lst ys) => if o = .add ∧ xs.length + ys.length ≤ line then .ok (.nx, ρ, S.set l (.lst (xs ++ ys))) else .bad
      | some (.lst xs), .new (.lst ys) => if o = .add ∧ xs.length + ys.length ≤ line then .ok (.nx, ρ, S.set l (.lst (xs ++ ys))) else .bad
      | _, _ => .bad)
    | _ => .bad
  | .seti o i e, ρ, S => do
    let (v, S) ← evalE cf e ρ S
    let p ← item v
    let (a, S) ← evalE cf o ρ S
    let (k, S) ← evalE cf i ρ S
    match a, k with
    | .loc l, .pv (.int j) => (match S[l]? with
      | some (.lst xs) => if 0 ≤ j ∧ j < xs.length then .ok (.nx, ρ, S.set l (.lst (xs.set j.toNat p))) else .bad
      | none => .bad)
    | _, _ => .bad
  | .exp e, ρ, S => do
    let (_, S) ← evalE cf e ρ S
    .ok (.nx, ρ, S)
  | .ret e, ρ, S => do
    let (v, S) ← evalE cf e ρ S
    .ok (.rt v, ρ, S)
  | .retN, ρ, S => .ok (.rt (.pv .non), ρ, S)
  | .ifs c a b, ρ, S => do
    let (v, S) ← evalE cf c ρ S
    let p ← rd S v
    if trOk p then (if truthy p then evalB a ρ S else evalB b ρ S) else .bad
  | .whl c b, ρ, S => loopW (fun s => do
      let (v, S) ← evalE cf c s.1 s.2
      let p ← rd S v
      if trOk p then (if truthy p then do
          let (fl, ρ, S) ← evalB b s.1 S
          match fl with
          | .nx => .ok (.inl (ρ, S))
          | .ct => .ok (.inl (ρ, S))
          | .bk => .ok (.inr (.nx, ρ, S))
          | .rt v => .ok (.inr (.rt v, ρ, S))
        else .ok (.inr (.nx, s.1, S))) else .bad) (ρ, S)
  | .for_ t it b, ρ, S => do
    let (xs, src, S) ← evalIt cf it ρ S
    loopF (fun x ρ S => do
      let ρ1 ← bindT S t (.pv x) ρ
      evalB b ρ1 S) src xs xs ρ S
  | .pass, ρ, S => .ok (.nx, ρ, S)
  | .brk, ρ, S => .ok (.bk, ρ, S)
  | .cont, ρ, S => .ok (.ct, ρ, S)
noncomputable def evalB : Blk → Env → Sto → Out (Flow × Env × Sto)
  | .nil, ρ, S => .ok (.nx, ρ, S)
  | .cons s r, ρ, S => do
    let (fl, ρ, S) ← evalS s ρ S
    match fl with
    | .nx => evalB r ρ S
    | _ => .ok (fl, ρ, S)
end
end
/-- what a call hands back: a list that it made itself is new -/
def handed (n : Nat) (S : Sto) : Val → Out (Val × Sto)
  | .pv p => .ok (.pv p, S.take n)
  | .new c => .ok (.new c, S.take n)
  | .loc l => if l < n then .ok (.loc l, S.take n) else match S[l]? with
    | some c => .ok (.new c, S.take n)
    | none => .bad
noncomputable def runFn (cf : Nat → List Val → Sto → Out (Val × Sto)) (d : Fn) (args : List Val) (S : Sto) : Out (Val × Sto) :=
  if args.length = d.np then do
    let (fl, _, S') ← evalB cf d.body (args.map some ++ List.replicate (d.ns - d.np) none) S
    match fl with
    | .rt v => handed S.length S' v
    | .nx => .ok (.pv .non, S'.take S.length)
    | _ => .bad
  else .bad
noncomputable def callF (Γ : Nat → Option Fn) : Nat → Nat → List Val → Sto → Out (Val × Sto)
  | 0, _, _, _ => .bad
  | k + 1, f, args, S => match Γ f with
    | some d => runFn (callF Γ k) d args S
    | none => .bad
end RS

set_option Elab.async false
set_option linter.all false
set_option maxRecDepth 100000
set_option maxHeartbeats 4000000
namespace RS
open PySem PySem.Spec PyProof.Rows L2

/-! ### how values lie on the heap -/
section
variable (K : PySem.W.Frag)
mutual
def Rp (H : Hp) : PV → V → Prop
  | .non, u => u = .non
  | .bl b, u => u = .bl b
  | .int i, u => u = .int i
  | .str s, u => u = .str s
  | .tup xs, u => ∃ a us, u = .ref a ∧ SqT K H a us ∧ Rps H xs us
  | .lst xs, u => ∃ a us, u = .ref a ∧ H a = some (.lst us) ∧ Rps H xs us
  | .scr ns, u => ∃ a, u = .ref a ∧ SqL K H a (ns.map V.int)
def Rps (H : Hp) : List PV → List V → Prop
  | [], us => us = []
  | x :: xs, us => ∃ u r, us = u :: r ∧ Rp H x u ∧ Rps H xs r
end
end
def Le (H H' : Hp) : Prop := ∀ a o, H a = some o → H' a = some o
theorem Le.refl (H : Hp) : Le H H := fun _ _ h => h
theorem Le.trans {A B C : Hp} (x : Le A B) (y : Le B C) : Le A C := fun a o h => y a o (x a o h)
theorem Le.upd {H : Hp} {p : Addr} {o : HO} (h : H p = none) : Le H (upd H p o) := fun a u e => by
  rw [upd_ne (ne_of_none e h)]; exact e
section
variable {K : PySem.W.Frag}
theorem SqT.le {H H' : Hp} {a : Addr} {us : List V} (e : Le H H') (h : SqT K H a us) : SqT K H' a us := by
  rcases h with (h | ⟨o, h⟩) | h
  · exact .inl (.inl (e _ _ h))
  · exact .inl (.inr ⟨o, e _ _ h⟩)
  · exact .inr h
theorem SqL.le {H H' : Hp} {a : Addr} {us : List V} (e : Le H H') (h : SqL K H a us) : SqL K H' a us := by
  rcases h with (h | ⟨o, h⟩) | h
  · exact .inl (.inl (e _ _ h))
  · exact .inl (.inr ⟨o, e _ _ h⟩)
  · exact .inr h
mutual
theorem Rp.le {H H' : Hp} (e : Le H H') : ∀ (p : PV) (u : V), Rp K H p u → Rp K H' p u
  | .non, _, h => by simpa only [Rp] using h
  | .bl _, _, h => by simpa only [Rp] using h
  | .int _, _, h => by simpa only [Rp] using h
  | .str _, _, h => by simpa only [Rp] using h
  | .tup xs, _, h => by
    simp only [Rp] at h ⊢
    obtain ⟨a, us, rfl, s, r⟩ := h
    exact ⟨a, us, rfl, SqT.le e s, Rps.le e xs us r⟩
  | .lst xs, _, h => by
    simp only [Rp] at h ⊢
    obtain ⟨a, us, rfl, s, r⟩ := h
    exact ⟨a, us, rfl, e _ _ s, Rps.le e xs us r⟩
  | .scr _, _, h => by
    simp only [Rp] at h ⊢
    obtain ⟨a, rfl, s⟩ := h
    exact ⟨a, rfl, SqL.le e s⟩
theorem Rps.le {H H' : Hp} (e : Le H H') : ∀ (xs : List PV) (us : List V), Rps K H xs us → Rps K H' xs us
  | [], _, h => by simpa only [Rps] using h
  | x :: xs, _, h => by
    simp only [Rps] at h ⊢
    obtain ⟨u, r, rfl, h1, h2⟩ := h
    exact ⟨u, r, rfl, Rp.le e x u h1, Rps.le e xs r h2⟩
end
theorem Rps.length {H : Hp} : ∀ {xs : List PV} {us : List V}, Rps K H xs us → us.length = xs.length
  | [], _, h => by simp only [Rps] at h; subst h; rfl
  | x :: xs, _, h => by
    simp only [Rps] at h
    obtain ⟨u, r, rfl, _, h2⟩ := h
    simp only [List.length_cons, Rps.length h2]
theorem Rps.nil {H : Hp} : Rps K H [] [] := by simp only [Rps]
theorem Rps.cons {H : Hp} {x : PV} {xs : List PV} {u : V} {us : List V} (h : Rp K H x u) (hs : Rps K H xs us) : Rps K H (x :: xs) (u :: us) := by
  simp only [Rps]; exact ⟨u, us, rfl, h, hs⟩
theorem Rps.append {H : Hp} : ∀ {xs ys : List PV} {us vs : List V}, Rps K H xs us → Rps K H ys vs → Rps K H (xs ++ ys) (us ++ vs)
  | [], _, _, _, h, g => by simp only [Rps] at h; subst h; exact g
  | x :: xs, _, _, _, h, g => by
    simp only [Rps] at h
    obtain ⟨u, r, rfl, h1, h2⟩ := h
    exact Rps.cons h1 (Rps.append h2 g)
theorem Rps.get {H : Hp} : ∀ {xs : List PV} {us : List V} {i : Nat} {x : PV}, Rps K H xs us → xs[i]? = some x → ∃ u, us[i]? = some u ∧ Rp K H x u
  | [], _, _, _, _, e => by simp at e
  | x :: xs, _, i, y, h, e => by
    simp only [Rps] at h
    obtain ⟨u, r, rfl, h1, h2⟩ := h
    cases i with
    | zero => simp at e; subst e; exact ⟨u, rfl, h1⟩
    | succ i => simpa using Rps.get h2 (by simpa using e)
theorem Rps.drop {H : Hp} : ∀ {xs : List PV} {us : List V} (n : Nat), Rps K H xs us → Rps K H (xs.drop n) (us.drop n)
  | _, _, 0, h => h
  | [], _, n + 1, h => by simp only [Rps] at h; subst h; exact Rps.nil
  | x :: xs, _, n + 1, h => by
    simp only [Rps] at h
    obtain ⟨u, r, rfl, h1, h2⟩ := h
    exact Rps.drop n h2
theorem Rps.take {H : Hp} : ∀ {xs : List PV} {us : List V} (n : Nat), Rps K H xs us → Rps K H (xs.take n) (us.take n)
  | _, _, 0, h => Rps.nil
  | [], _, n + 1, h => by simp only [Rps] at h; subst h; exact Rps.nil
  | x :: xs, _, n + 1, h => by
    simp only [Rps] at h
    obtain ⟨u, r, rfl, h1, h2⟩ := h
    exact Rps.cons h1 (Rps.take n h2)
theorem Rps.rep {H : Hp} {xs : List PV} {us : List V} (h : Rps K H xs us) : ∀ n : Nat, Rps K H (List.replicate n xs).flatten (List.replicate n us).flatten
  | 0 => Rps.nil
  | n + 1 => by
    rw [List.replicate_succ, List.replicate_succ, List.flatten_cons, List.flatten_cons]
    exact Rps.append h (Rps.rep h n)
theorem Rps.set {H : Hp} {p : PV} {w : V} (hp : Rp K H p w) : ∀ {xs : List PV} {us : List V} (n : Nat), Rps K H xs us → Rps K H (xs.set n p) (us.set n w)
  | [], _, n, h => by simp only [Rps] at h; subst h; exact Rps.nil
  | x :: xs, _, 0, h => by
    simp only [Rps] at h
    obtain ⟨u, r, rfl, h1, h2⟩ := h
    exact Rps.cons hp h2
  | x :: xs, _, n + 1, h => by
    simp only [Rps] at h
    obtain ⟨u, r, rfl, h1, h2⟩ := h
    exact Rps.cons h1 (Rps.set hp n h2)
theorem Rps.eraseIdx {H : Hp} : ∀ {xs : List PV} {us : List V} (n : Nat), Rps K H xs us → Rps K H (xs.eraseIdx n) (us.eraseIdx n)
  | [], _, n, h => by simp only [Rps] at h; subst h; exact Rps.nil
  | x :: xs, _, 0, h => by
    simp only [Rps] at h
    obtain ⟨u, r, rfl, h1, h2⟩ := h
    exact h2
  | x :: xs, _, n + 1, h => by
    simp only [Rps] at h
    obtain ⟨u, r, rfl, h1, h2⟩ := h
    exact Rps.cons h1 (Rps.eraseIdx n h2)
theorem Rps.dropLast {H : Hp} {xs : List PV} {us : List V} (h : Rps K H xs us) : Rps K H xs.dropLast us.dropLast := by
  rw [List.dropLast_eq_take, List.dropLast_eq_take, h.length]
  exact h.take _
theorem Rps.reverse {H : Hp} : ∀ {xs : List PV} {us : List V}, Rps K H xs us → Rps K H xs.reverse us.reverse
  | [], _, h => by simp only [Rps] at h; subst h; exact Rps.nil
  | x :: xs, _, h => by
    simp only [Rps] at h
    obtain ⟨u, r, rfl, h1, h2⟩ := h
    rw [List.reverse_cons, List.reverse_cons]
    exact Rps.append (Rps.reverse h2) (Rps.cons h1 Rps.nil)
theorem Rps.ints {H : Hp} : ∀ {ns : List Int}, Rps K H (ns.map .int) (ns.map V.int)
  | [] => Rps.nil
  | n :: ns => Rps.cons (by simp only [Rp]) Rps.ints
theorem Rps.intsOf {H : Hp} : ∀ {xs : List PV} {us : List V} {ns : List Int}, Rps K H xs us → intsOf xs = some ns → us = ns.map V.int
  | [], _, ns, h, e => by simp only [Rps] at h; subst h; simp only [RS.intsOf] at e; cases e; rfl
  | x :: xs, _, ns, h, e => by
    simp only [Rps] at h
    obtain ⟨u, r, rfl, h1, h2⟩ := h
    cases x with
    | int i =>
      simp only [Rp] at h1
      subst h1
      simp only [RS.intsOf, Option.map_eq_some_iff] at e
      obtain ⟨ms, e1, rfl⟩ := e
      rw [Rps.intsOf h2 e1, List.map_cons]
    | _ => simp [RS.intsOf] at e
theorem Rps.blsOf {H : Hp} : ∀ {xs : List PV} {us : List V} {ns : List Bool}, Rps K H xs us → blsOf xs = some ns → us = ns.map V.bl
  | [], _, ns, h, e => by simp only [Rps] at h; subst h; simp only [RS.blsOf] at e; cases e; rfl
  | x :: xs, _, ns, h, e => by
    simp only [Rps] at h
    obtain ⟨u, r, rfl, h1, h2⟩ := h
    cases x with
    | bl i =>
      simp only [Rp] at h1
      subst h1
      simp only [RS.blsOf, Option.map_eq_some_iff] at e
      obtain ⟨ms, e1, rfl⟩ := e
      rw [Rps.blsOf h2 e1, List.map_cons]
    | _ => simp [RS.blsOf] at e
end

/-! ### the store -/
def hide (m : List Addr) (H : Hp) : Hp := fun a => if a ∈ m then none else H a
theorem hide_some {m : List Addr} {H : Hp} {a : Addr} {o : HO} (h : hide m H a = some o) : a ∉ m ∧ H a = some o := by
  unfold hide at h
  split at h
  · cases h
  · exact ⟨‹_›, h⟩
theorem hide_of {m : List Addr} {H : Hp} {a : Addr} {o : HO} (h : H a = some o) (n : a ∉ m) : hide m H a = some o := by
  unfold hide; rw [if_neg n]; exact h
theorem hide_le (m : List Addr) (H : Hp) : Le (hide m H) H := fun a o h => (hide_some h).2
theorem hide_upd {H : Hp} {p : Addr} {o : HO} (h : H p = none) : hide [p] (upd H p o) = H := by
  funext a
  unfold hide
  by_cases e : a = p
  · subst e; rw [if_pos (by simp)]; exact h.symm
  · rw [if_neg (by simpa using e), upd_ne e]
theorem hide_mono {m : List Addr} {H H' : Hp} (h : Le H H') : Le (hide m H) (hide m H') := fun a o e => by
  obtain ⟨n, q⟩ := hide_some e
  exact hide_of (h a o q) n
theorem hide_sub {z z' : List Addr} {H : Hp} (h : ∀ a, a ∈ z → a ∈ z') : Le (hide z' H) (hide z H) := fun a o e => by
  obtain ⟨n, q⟩ := hide_some e
  exact hide_of q fun m => n (h a m)
theorem hide_new {z : List Addr} {H : Hp} {p : Addr} {o : HO} (h : H p = none) : hide (p :: z) (upd H p o) = hide z H := by
  funext a
  unfold hide
  by_cases e : a = p
  · subst e
    rw [if_pos (by simp)]
    split
    · rfl
    · exact h.symm
  · by_cases e2 : a ∈ z
    · rw [if_pos (by simp [e2]), if_pos e2]
    · rw [if_neg (by simp [e, e2]), if_neg e2, upd_ne e]
theorem hide_perm {z z' : List Addr} {H : Hp} (h : ∀ a, a ∈ z ↔ a ∈ z') : hide z H = hide z' H := by
  funext a
  unfold hide
  by_cases e : a ∈ z
  · rw [if_pos e, if_pos ((h a).mp e)]
  · rw [if_neg e, if_neg fun q => e ((h a).mpr q)]
/-- all of these stand -/
def Tk (z : List Addr) (H : Hp) : Prop := ∀ a ∈ z, H a ≠ none
theorem Tk.out {z : List Addr} {H : Hp} (t : Tk z H) {p : Addr} (h : H p = none) : p ∉ z := fun m => t p m h
/-- the store lies at m; what stands at Z is left alone and not looked at -/
structure SR (K : PySem.W.Frag) (Z m : List Addr) (S : Sto) (H : Hp) : Prop where
  len : m.length = S.length
  nd : m.Nodup
  dis : ∀ a ∈ Z, a ∉ m
  trk : Tk Z H
  sto : ∀ (l : Nat) (xs : List PV), S[l]? = some (.lst xs) → ∃ a us, m[l]? = some a ∧ H a = some (.lst us) ∧ Rps K (hide (Z ++ m) H) xs us
/-- a step: new addresses for the store, all else that stood stands -/
structure Stp (m : List Addr) (H : Hp) (m' : List Addr) (H' : Hp) : Prop where
  pre : ∃ r, m' = m ++ r
  new : ∀ a, a ∈ m' → a ∉ m → H a = none
  ext : ∀ a o, H a = some o → a ∉ m → H' a = some o
theorem Stp.refl (m : List Addr) (H : Hp) : Stp m H m H := ⟨⟨[], by simp⟩, fun _ h n => absurd h n, fun _ _ h _ => h⟩
theorem Stp.of_le {m : List Addr} {H H' : Hp} (h : Le H H') : Stp m H m H' := ⟨⟨[], by simp⟩, fun _ h n => absurd h n, fun a o e _ => h a o e⟩
theorem Stp.mem {m m' : List Addr} {H H' : Hp} (s : Stp m H m' H') {a : Addr} (h : a ∈ m) : a ∈ m' := by
  obtain ⟨r, rfl⟩ := s.pre
  exact List.mem_append_left _ h
theorem Stp.trans {m m1 m2 : List Addr} {H H1 H2 : Hp} (a : Stp m H m1 H1) (b : Stp m1 H1 m2 H2) : Stp m H m2 H2 := by
  refine ⟨?_, fun x h n => ?_, fun x o h n => ?_⟩
  · obtain ⟨r, rfl⟩ := a.pre
    obtain ⟨r', rfl⟩ := b.pre
    exact ⟨r ++ r', by simp⟩
  · by_cases h1 : x ∈ m1
    · exact a.new x h1 n
    · have := b.new x h h1
      cases e : H x with
      | none => rfl
      | some o => rw [a.ext x o e n] at this; cases this
  · refine b.ext x o (a.ext x o h n) fun h1 => ?_
    rw [a.new x h1 n] at h
    cases h
theorem Stp.hide {m m' : List Addr} {H H' : Hp} (s : Stp m H m' H') (Z : List Addr) : Le (RS.hide (Z ++ m) H) (RS.hide (Z ++ m') H') := fun a o h => by
  obtain ⟨n, e⟩ := hide_some h
  have n1 : a ∉ Z := fun q => n (List.mem_append_left _ q)
  have n2 : a ∉ m := fun q => n (List.mem_append_right _ q)
  refine hide_of (s.ext a o e n2) fun h1 => ?_
  rcases List.mem_append.mp h1 with h1 | h1
  · exact n1 h1
  · rw [s.new a h1 n2] at e
    cases e
theorem Stp.le {m m' : List Addr} {H H' H'' : Hp} (s : Stp m H m' H') (h : Le H' H'') : Stp m H m' H'' := ⟨s.pre, s.new, fun a o e n => h a o (s.ext a o e n)⟩
theorem SR.le {K : PySem.W.Frag} {Z m : List Addr} {S : Sto} {H H' : Hp} (s : SR K Z m S H) (h : Le H H') : SR K Z m S H' :=
  ⟨s.len, s.nd, s.dis, fun a ha => by
    cases e : H a with
    | none => exact absurd e (s.trk a ha)
    | some o => rw [h a o e]; simp, fun l xs e => by
    obtain ⟨a, us, h1, h2, h3⟩ := s.sto l xs e
    exact ⟨a, us, h1, h a _ h2, Rps.le (hide_mono h) _ _ h3⟩⟩
theorem SR.at {K : PySem.W.Frag} {Z m : List Addr} {S : Sto} {H : Hp} (s : SR K Z m S H) {a : Addr} (h : a ∈ m) : ∃ us, H a = some (.lst us) := by
  obtain ⟨l, hl, e⟩ := List.getElem_of_mem h
  have hl' : l < S.length := by rw [← s.len]; exact hl
  cases c : S[l] with
  | lst xs =>
    obtain ⟨b, us, h1, h2, _⟩ := s.sto l xs (by rw [List.getElem?_eq_getElem hl', c])
    rw [List.getElem?_eq_getElem hl] at h1
    have : b = a := by rw [← e]; exact (Option.some.inj h1).symm
    subst this
    exact ⟨us, h2⟩
theorem SR.tk {K : PySem.W.Frag} {Z m : List Addr} {S : Sto} {H : Hp} (s : SR K Z m S H) : Tk (Z ++ m) H := fun a h => by
  rcases List.mem_append.mp h with h | h
  · exact s.trk a h
  · obtain ⟨us, e⟩ := s.at h
    rw [e]; simp
theorem SR.wk {K : PySem.W.Frag} {p : Addr} {Z m : List Addr} {S : Sto} {H : Hp} (s : SR K (p :: Z) m S H) : SR K Z m S H :=
  ⟨s.len, s.nd, fun a h => s.dis a (by simp [h]), fun a h => s.trk a (by simp [h]), fun l xs e => by
    obtain ⟨a, us, h1, h2, h3⟩ := s.sto l xs e
    exact ⟨a, us, h1, h2, Rps.le (hide_sub fun b hb => by simp only [List.cons_append, List.mem_cons]; exact .inr hb) _ _ h3⟩⟩
def Rv (K : PySem.W.Frag) (Z m : List Addr) (H : Hp) : Val → V → Prop
  | .pv p, u => Rp K (hide (Z ++ m) H) p u
  | .loc l, u => ∃ a, m[l]? = some a ∧ u = .ref a
  | .new _, _ => False
theorem Rv.stp {K : PySem.W.Frag} {Z m m' : List Addr} {H H' : Hp} (s : Stp m H m' H') : ∀ {v : Val} {u : V}, Rv K Z m H v u → Rv K Z m' H' v u
  | .pv p, u, h => Rp.le (s.hide Z) p u h
  | .loc l, u, ⟨a, h, e⟩ => by
    obtain ⟨r, rfl⟩ := s.pre
    refine ⟨a, ?_, e⟩
    rw [List.getElem?_append_left (by
      have := List.getElem?_eq_some_iff.mp h
      exact this.1)]
    exact h
  | .new _, _, h => h.elim
def ER (K : PySem.W.Frag) (Z m : List Addr) (H : Hp) (ρ : Env) (σ : L2.St) : Prop :=
  ρ.length = σ.length ∧ ∀ (i : Nat) (v : Val), ρ[i]? = some (some v) → ∃ u, σ[i]? = some (some u) ∧ Rv K Z m H v u
theorem ER.stp {K : PySem.W.Frag} {Z m m' : List Addr} {H H' : Hp} {ρ : Env} {σ : L2.St} (s : Stp m H m' H') (e : ER K Z m H ρ σ) : ER K Z m' H' ρ σ :=
  ⟨e.1, fun i v h => by
    obtain ⟨u, h1, h2⟩ := e.2 i v h
    exact ⟨u, h1, h2.stp s⟩⟩
/-- what stands behind an expression: its value v at u, the store -/
def Post (K : PySem.W.Frag) (Z m : List Addr) (H : Hp) (v : Val) (S' : Sto) (u : V) (m' : List Addr) (H' : Hp) : Prop :=
  match v with
  | .new c => ∃ p us, u = .ref p ∧ p ∉ m' ∧ p ∉ Z ∧ H p = none ∧ H' p = some (.lst us) ∧ Stp m H m' H' ∧ SR K (p :: Z) m' S' H' ∧ (match c with | .lst xs => Rps K (hide (p :: Z ++ m') H') xs us)
  | v => Stp m H m' H' ∧ SR K Z m' S' H' ∧ Rv K Z m' H' v u
/-- .. where a new list is taken as a value -/
structure PostN (K : PySem.W.Frag) (Z m : List Addr) (H : Hp) (v : Val) (S' : Sto) (u : V) (m' : List Addr) (H' : Hp) : Prop where
  stp : Stp m H m' H'
  sr : SR K Z m' S' H'
  rv : Rv K Z m' H' (norm v) u
theorem Post.norm {K : PySem.W.Frag} {Z m : List Addr} {H : Hp} : ∀ {v : Val} {S' : Sto} {u : V} {m' : List Addr} {H' : Hp}, Post K Z m H v S' u m' H' → PostN K Z m H v S' u m' H'
  | .pv _, _, _, _, _, ⟨a, b, c⟩ => ⟨a, b, c⟩
  | .loc _, _, _, _, _, ⟨a, b, c⟩ => ⟨a, b, c⟩
  | .new (.lst xs), _, _, _, _, ⟨p, us, e, n, nz, hn, hp, s, r, h⟩ => by
    refine ⟨s, r.wk, ?_⟩
    show Rp K _ (.lst xs) _
    simp only [Rp]
    refine ⟨p, us, e, hide_of hp fun q => ?_, Rps.le (hide_sub fun b hb => by simp only [List.cons_append, List.mem_cons]; exact .inr hb) _ _ h⟩
    rcases List.mem_append.mp q with q | q
    · exact nz q
    · exact n q
/-- a value that is read -/
def Rr (K : PySem.W.Frag) (m : List Addr) (H : Hp) : PV → V → Prop
  | .lst xs, u => ∃ a us, u = .ref a ∧ H a = some (.lst us) ∧ Rps K (hide m H) xs us
  | p, u => Rp K (hide m H) p u
theorem Rr.of {K : PySem.W.Frag} {m : List Addr} {H : Hp} : ∀ {p : PV} {u : V}, Rp K (hide m H) p u → Rr K m H p u
  | .lst xs, _, h => by
    simp only [Rp] at h
    obtain ⟨a, us, e, h1, h2⟩ := h
    exact ⟨a, us, e, (hide_some h1).2, h2⟩
  | .non, _, h => h
  | .bl _, _, h => h
  | .int _, _, h => h
  | .str _, _, h => h
  | .tup _, _, h => h
  | .scr _, _, h => h
theorem norm_rd {S : Sto} {v : Val} {p : PV} (h : rd S v = .ok p) : rd S (norm v) = .ok p := by
  cases v <;> exact h
theorem Rv.read {K : PySem.W.Frag} {Z m : List Addr} {S : Sto} {H : Hp} {v : Val} {u : V} {p : PV} (s : SR K Z m S H) (h : Rv K Z m H (norm v) u) (e : rd S v = .ok p) : Rr K (Z ++ m) H p u := by
  cases v with
  | pv q => cases e; exact Rr.of h
  | new c => cases e; exact Rr.of h
  | loc l =>
    obtain ⟨a, h1, rfl⟩ := h
    simp only [rd] at e
    split at e
    · rename_i c hc
      cases e
      cases c with
      | lst xs =>
        obtain ⟨b, us, g1, g2, g3⟩ := s.sto l xs hc
        rw [h1] at g1
        cases g1
        exact ⟨a, us, rfl, g2, g3⟩
    · cases e
/-- what an operation hands on -/
def NewV (K : PySem.W.Frag) (m : List Addr) (H : Hp) (r : PV) (u : V) (H' : Hp) : Prop :=
  match r with
  | .lst xs => ∃ p us, u = .ref p ∧ H p = none ∧ H' = upd H p (.lst us) ∧ Rps K (hide m H) xs us
  | r => Le H H' ∧ Rp K (hide m H') r u
theorem Post.of_new {K : PySem.W.Frag} {Z m : List Addr} {S : Sto} {H : Hp} (s : SR K Z m S H) {p : Addr} {xs : List PV} {us : List V} (n : H p = none) (h : Rps K (hide (Z ++ m) H) xs us) : Post K Z m H (.new (.lst xs)) S (.ref p) m (upd H p (.lst us)) := by
  have np := s.tk.out n
  have n1 : p ∉ Z := fun q => np (List.mem_append_left _ q)
  have n2 : p ∉ m := fun q => np (List.mem_append_right _ q)
  refine ⟨p, us, rfl, n2, n1, n, upd_same, Stp.of_le (Le.upd n), ⟨s.len, s.nd, fun a ha => ?_, fun a ha => ?_, fun l ys e => ?_⟩, ?_⟩
  · rcases List.mem_cons.mp ha with rfl | ha
    · exact n2
    · exact s.dis a ha
  · rcases List.mem_cons.mp ha with rfl | ha
    · rw [upd_same]; simp
    · rw [upd_ne (fun z => n1 (by rw [← z]; exact ha))]
      exact s.trk a ha
  · obtain ⟨a, ws, h1, h2, h3⟩ := s.sto l ys e
    refine ⟨a, ws, h1, by rw [upd_ne (ne_of_none h2 n)]; exact h2, ?_⟩
    rw [List.cons_append, hide_new n]
    exact h3
  · show Rps K (hide (p :: Z ++ m) (upd H p (.lst us))) xs us
    rw [List.cons_append, hide_new n]
    exact h
theorem NewV.post {K : PySem.W.Frag} {Z m : List Addr} {S : Sto} {H : Hp} (s : SR K Z m S H) : ∀ {r : PV} {u : V} {H' : Hp}, NewV K (Z ++ m) H r u H' → Post K Z m H (fresh r) S u m H'
  | .lst xs, _, _, ⟨p, us, e, n, e', h⟩ => by
    subst e'
    subst e
    exact Post.of_new s n h
  | .non, _, _, h => ⟨Stp.of_le h.1, s.le h.1, h.2⟩
  | .bl _, _, _, h => ⟨Stp.of_le h.1, s.le h.1, h.2⟩
  | .int _, _, _, h => ⟨Stp.of_le h.1, s.le h.1, h.2⟩
  | .str _, _, _, h => ⟨Stp.of_le h.1, s.le h.1, h.2⟩
  | .tup _, _, _, h => ⟨Stp.of_le h.1, s.le h.1, h.2⟩
  | .scr _, _, _, h => ⟨Stp.of_le h.1, s.le h.1, h.2⟩
theorem NewV.tup {K : PySem.W.Frag} {z : List Addr} {H : Hp} (s : Tk z H) {xs : List PV} {us : List V} {p : Addr} (n : H p = none) (h : Rps K (hide z H) xs us) : NewV K z H (.tup xs) (.ref p) (upd H p (.tup us)) := by
  refine ⟨Le.upd n, ?_⟩
  simp only [Rp]
  refine ⟨p, us, rfl, .inl (.inl (hide_of upd_same (s.out n))), Rps.le (hide_mono (Le.upd n)) _ _ h⟩
end RS

set_option Elab.async false
set_option linter.all false
set_option maxRecDepth 100000
set_option maxHeartbeats 4000000
namespace RS
open PySem PySem.Spec PyProof.Rows L2

theorem line_eq : line = sizeLine := by rw [sizeLine_eq]; rfl
def rOp (K : PySem.W.Frag) (f : PV → PV → Option PV) : R2 := fun x y H Q => ∃ m p q r, Tk m H ∧ Rr K m H p x ∧ Rr K m H q y ∧ f p q = some r ∧ ∀ u H', NewV K m H r u H' → Q u H'
theorem newV_int {K : PySem.W.Frag} {m : List Addr} {H : Hp} {i : Int} : NewV K m H (.int i) (.int i) H := ⟨Le.refl _, by simp only [Rp]⟩
theorem newV_bl {K : PySem.W.Frag} {m : List Addr} {H : Hp} {i : Bool} : NewV K m H (.bl i) (.bl i) H := ⟨Le.refl _, by simp only [Rp]⟩
theorem newV_str {K : PySem.W.Frag} {m : List Addr} {H : Hp} {i : Str} : NewV K m H (.str i) (.str i) H := ⟨Le.refl _, by simp only [Rp]⟩
section
variable {K : PySem.W.Frag} {m : List Addr} {H : Hp}
theorem Rr.int {i : Int} {u : V} (h : Rr K m H (.int i) u) : u = .int i := by simpa only [Rr, Rp] using h
theorem Rr.bl {i : Bool} {u : V} (h : Rr K m H (.bl i) u) : u = .bl i := by simpa only [Rr, Rp] using h
theorem Rr.str {i : Str} {u : V} (h : Rr K m H (.str i) u) : u = .str i := by simpa only [Rr, Rp] using h
theorem Rr.non {u : V} (h : Rr K m H .non u) : u = .non := by simpa only [Rr, Rp] using h
theorem Rr.tup {xs : List PV} {u : V} (h : Rr K m H (.tup xs) u) : ∃ a us, u = .ref a ∧ SqT K H a us ∧ Rps K (hide m H) xs us := by
  simp only [Rr, Rp] at h
  obtain ⟨a, us, e, s, r⟩ := h
  exact ⟨a, us, e, SqT.le (hide_le _ _) s, r⟩
theorem Rr.lst {xs : List PV} {u : V} (h : Rr K m H (.lst xs) u) : ∃ a us, u = .ref a ∧ H a = some (.lst us) ∧ Rps K (hide m H) xs us := h
theorem Rr.scr {xs : List Int} {u : V} (h : Rr K m H (.scr xs) u) : ∃ a, u = .ref a ∧ SqL K H a (xs.map V.int) := by
  simp only [Rr, Rp] at h
  obtain ⟨a, e, s⟩ := h
  exact ⟨a, e, SqL.le (hide_le _ _) s⟩
/-- any row that is read -/
theorem Rr.row {p : PV} {xs : List PV} {u : V} (h : Rr K m H p u) (e : rowOf p = some xs) : ∃ a us, u = .ref a ∧ (SqL K H a us ∨ SqT K H a us) ∧ Rps K (hide m H) xs us := by
  cases p with
  | tup ys => cases e; obtain ⟨a, us, e, s, r⟩ := h.tup; exact ⟨a, us, e, .inr s, r⟩
  | lst ys => cases e; obtain ⟨a, us, e, s, r⟩ := h.lst; exact ⟨a, us, e, .inl (SqL.of s), r⟩
  | scr ys => cases e; obtain ⟨a, e, s⟩ := h.scr; exact ⟨a, _, e, .inl s, Rps.ints⟩
  | _ => cases e
end

/-! ### == of data -/
mutual
def toD : PV → PyData
  | .non => .none
  | .bl b => .bool b
  | .int i => .int i
  | .str s => .str s
  | .tup xs => .tuple (toDs xs)
  | .lst xs => .list (toDs xs)
  | .scr _ => .none
def toDs : List PV → List PyData
  | [] => []
  | x :: xs => toD x :: toDs xs
end
theorem toDs_mem {d : PyData} : ∀ {xs : List PV}, d ∈ toDs xs → ∃ x ∈ xs, d = toD x
  | [], h => by simp [toDs] at h
  | x :: xs, h => by
    simp only [toDs, List.mem_cons] at h
    rcases h with rfl | h
    · exact ⟨x, by simp, rfl⟩
    · obtain ⟨y, hy, e⟩ := toDs_mem h
      exact ⟨y, by simp [hy], e⟩
theorem canLayAll_of : ∀ {ds : List PyData}, (∀ d ∈ ds, d.canLay0 = true) → PyData.canLayAll0 ds = true
  | [], _ => by simp [PyData.canLayAll0]
  | d :: ds, h => by
    simp only [PyData.canLayAll0, Bool.and_eq_true]
    exact ⟨h d (by simp), canLayAll_of fun x hx => h x (by simp [hx])⟩
theorem depthAll_of {n : Nat} : ∀ {ds : List PyData}, (∀ d ∈ ds, d.depth ≤ n) → PyData.depthAll ds ≤ n
  | [], _ => by simp [PyData.depthAll]
  | d :: ds, h => by
    simp only [PyData.depthAll]
    exact Nat.max_le.mpr ⟨h d (by simp), depthAll_of fun x hx => h x (by simp [hx])⟩
theorem shal_ok : ∀ (n : Nat) (p : PV), shal n p = true → (toD p).canLay0 = true ∧ (toD p).depth ≤ n
  | n, .non, _ => by simp [toD, PyData.canLay0, PyData.depth]
  | n, .bl _, _ => by simp [toD, PyData.canLay0, PyData.depth]
  | n, .int _, _ => by simp [toD, PyData.canLay0, PyData.depth]
  | n, .str s, h => by
    have h' : s.cps.all (· < 0x110000) = true := by cases n <;> exact h
    refine ⟨?_, by simp [toD, PyData.depth]⟩
    simp only [toD, PyData.canLay0]
    first
      | exact h'
      | (unfold PyData.strOk; exact h')
      | (unfold strOk; exact h')
  | 0, .tup _, h => by simp [shal] at h
  | 0, .lst _, h => by simp [shal] at h
  | n, .scr _, h => by cases n <;> simp [shal] at h
  | n + 1, .tup xs, h => by
    simp only [shal, List.all_eq_true] at h
    simp only [toD, PyData.canLay0, PyData.depth]
    refine ⟨canLayAll_of fun d hd => ?_, Nat.succ_le_succ (depthAll_of fun d hd => ?_)⟩
    · obtain ⟨x, hx, rfl⟩ := toDs_mem hd
      exact (shal_ok n x (h x hx)).1
    · obtain ⟨x, hx, rfl⟩ := toDs_mem hd
      exact (shal_ok n x (h x hx)).2
  | n + 1, .lst xs, h => by
    simp only [shal, List.all_eq_true] at h
    simp only [toD, PyData.canLay0, PyData.depth]
    refine ⟨canLayAll_of fun d hd => ?_, Nat.succ_le_succ (depthAll_of fun d hd => ?_)⟩
    · obtain ⟨x, hx, rfl⟩ := toDs_mem hd
      exact (shal_ok n x (h x hx)).1
    · obtain ⟨x, hx, rfl⟩ := toDs_mem hd
      exact (shal_ok n x (h x hx)).2
theorem shal_shaped {p : PV} (h : shal 60 p = true) : SeqAt.shaped (toD p) = true := by
  obtain ⟨a, b⟩ := shal_ok 60 p h
  unfold SeqAt.shaped
  rw [a, Bool.true_and]
  exact decide_eq_true (by omega)
mutual
theorem eqv_toD : ∀ (a b : PV) (n k : Nat), shal n a = true → shal k b = true → PyData.eqv (toD a) (toD b) = eqv a b
  | .scr _, _, n, _, h, _ => by cases n <;> simp [shal] at h
  | .non, b, _, k, _, h => by
    cases b with
    | scr _ => cases k <;> simp [shal] at h
    | _ => simp [toD, PyData.eqv, eqv]
  | .bl _, b, _, k, _, h => by
    cases b with
    | scr _ => cases k <;> simp [shal] at h
    | _ => simp [toD, PyData.eqv, eqv]
  | .int _, b, _, k, _, h => by
    cases b with
    | scr _ => cases k <;> simp [shal] at h
    | _ => simp [toD, PyData.eqv, eqv]
  | .str _, b, _, k, _, h => by
    cases b with
    | scr _ => cases k <;> simp [shal] at h
    | _ => simp [toD, PyData.eqv, eqv]
  | .tup xs, b, n, k, h, h' => by
    cases n with
    | zero => simp [shal] at h
    | succ n =>
      simp only [shal, List.all_eq_true] at h
      cases b with
      | scr _ => cases k <;> simp [shal] at h'
      | tup ys =>
        cases k with
        | zero => simp [shal] at h'
        | succ k =>
          simp only [shal, List.all_eq_true] at h'
          simp only [toD, PyData.eqv, eqv]
          exact eqvs_toD xs ys n k h h'
      | _ => simp [toD, PyData.eqv, eqv]
  | .lst xs, b, n, k, h, h' => by
    cases n with
    | zero => simp [shal] at h
    | succ n =>
      simp only [shal, List.all_eq_true] at h
      cases b with
      | scr _ => cases k <;> simp [shal] at h'
      | lst ys =>
        cases k with
        | zero => simp [shal] at h'
        | succ k =>
          simp only [shal, List.all_eq_true] at h'
          simp only [toD, PyData.eqv, eqv]
          exact eqvs_toD xs ys n k h h'
      | _ => simp [toD, PyData.eqv, eqv]
theorem eqvs_toD : ∀ (xs ys : List PV) (n k : Nat), (∀ x ∈ xs, shal n x = true) → (∀ x ∈ ys, shal k x = true) → PyData.eqvAll (toDs xs) (toDs ys) = eqvs xs ys
  | [], [], _, _, _, _ => by simp [toDs, PyData.eqvAll, eqvs]
  | [], y :: ys, _, _, _, _ => by simp [toDs, PyData.eqvAll, eqvs]
  | x :: xs, [], _, _, _, _ => by simp [toDs, PyData.eqvAll, eqvs]
  | x :: xs, y :: ys, n, k, h, h' => by
    simp only [toDs, PyData.eqvAll, eqvs]
    rw [eqv_toD x y n k (h x (by simp)) (h' y (by simp)), eqvs_toD xs ys n k (fun z hz => h z (by simp [hz])) (fun z hz => h' z (by simp [hz]))]
end
section
variable {K : PySem.W.Frag} {H : Hp}
mutual
theorem Rp.dp : ∀ (n : Nat) (p : PV) (u : V), shal n p = true → Rp K H p u → Dp K H u (toD p)
  | n, .scr _, _, h, _ => by cases n <;> simp [shal] at h
  | n, .non, _, _, h => by simp only [Rp] at h; subst h; exact .non
  | n, .bl b, _, _, h => by simp only [Rp] at h; subst h; exact .bl b
  | n, .int b, _, _, h => by simp only [Rp] at h; subst h; exact .int b
  | n, .str b, _, _, h => by simp only [Rp] at h; subst h; exact .str b
  | n, .tup xs, _, h, r => by
    cases n with
    | zero => simp [shal] at h
    | succ n =>
      simp only [shal, List.all_eq_true] at h
      simp only [Rp] at r
      obtain ⟨a, us, rfl, s, q⟩ := r
      exact .tup s (Rps.dp n xs us h q)
  | n, .lst xs, _, h, r => by
    cases n with
    | zero => simp [shal] at h
    | succ n =>
      simp only [shal, List.all_eq_true] at h
      simp only [Rp] at r
      obtain ⟨a, us, rfl, s, q⟩ := r
      exact .lst (SqL.of s) (Rps.dp n xs us h q)
theorem Rps.dp : ∀ (n : Nat) (xs : List PV) (us : List V), (∀ x ∈ xs, shal n x = true) → Rps K H xs us → DpAll K H us (toDs xs)
  | n, [], _, _, h => by simp only [Rps] at h; subst h; exact .nil
  | n, x :: xs, _, hs, h => by
    simp only [Rps] at h
    obtain ⟨u, r, rfl, h1, h2⟩ := h
    exact .cons (Rp.dp n x u (hs x (by simp)) h1) (Rps.dp n xs r (fun z hz => hs z (by simp [hz])) h2)
end
theorem Rr.dp {m : List Addr} {p : PV} {u : V} (h : shal 60 p = true) (r : Rr K m H p u) : Dp K H u (toD p) := by
  cases p with
  | lst xs =>
    obtain ⟨a, us, rfl, s, q⟩ := r.lst
    have h' : ∀ x ∈ xs, shal 59 x = true := by simpa only [shal, List.all_eq_true] using h
    simp only [toD]
    refine .lst (SqL.of s) ?_
    exact Rps.dp 59 xs us h' (Rps.le (hide_le _ _) _ _ q)
  | _ => exact Rp.dp 60 _ u h (Rp.le (hide_le m H) _ _ r)
end
section
variable {X : Cx}
theorem op_eqS (hu : X.A.units + 64 < cLine) : OpR X (compareOp .Eq) (rOp X.K (op2 .eq)) := by
  intro pins s σ H x y v u Q I rx ry h
  obtain ⟨m, p, q, r, sr, rp, rq, e, k⟩ := h
  simp only [op2, Option.map_eq_some_iff] at e
  obtain ⟨b, e, rfl⟩ := e
  unfold opEq at e
  split at e
  · cases e
    cases rp.str
    cases rq.str
    refine op_eq pins s σ H _ _ v u Q I rx ry ⟨rfl, ?_⟩
    rw [dec_str]
    exact k _ _ newV_bl
  · split at e
    · rename_i hs
      cases e
      simp only [Bool.and_eq_true] at hs
      refine op_eqD hu pins s σ H _ _ v u Q I rx ry ⟨toD p, toD q, rp.dp hs.1, rq.dp hs.2, shal_shaped hs.1, shal_shaped hs.2, ?_⟩
      rw [eqv_toD p q _ _ hs.1 hs.2]
      exact k _ _ newV_bl
    · cases e
theorem op_neS (hu : X.A.units + 64 < cLine) : OpR X (compareOp .NotEq) (rOp X.K (op2 .ne)) := by
  intro pins s σ H x y v u Q I rx ry h
  obtain ⟨m, p, q, r, sr, rp, rq, e, k⟩ := h
  simp only [op2, Option.map_eq_some_iff] at e
  obtain ⟨b, e, rfl⟩ := e
  unfold opEq at e
  split at e
  · cases e
    cases rp.str
    cases rq.str
    refine op_ne pins s σ H _ _ v u Q I rx ry ⟨rfl, ?_⟩
    rw [dec_str]
    exact k _ _ newV_bl
  · split at e
    · rename_i hs
      cases e
      simp only [Bool.and_eq_true] at hs
      refine op_neD hu pins s σ H _ _ v u Q I rx ry ⟨toD p, toD q, rp.dp hs.1, rq.dp hs.2, shal_shaped hs.1, shal_shaped hs.2, ?_⟩
      rw [eqv_toD p q _ _ hs.1 hs.2]
      exact k _ _ newV_bl
    · cases e
end
end RS

set_option Elab.async false
set_option linter.all false
set_option maxRecDepth 100000
set_option maxHeartbeats 4000000
namespace RS
open PySem PySem.Spec PyProof.Rows L2

theorem tuple_mul1 (l : Addr) (items : Array Value) (n : Nat) (dd : Option Addr) (sl : Array (Option Value)) (x : Int) (u : Tok) (c0 : (decide (x < -(2 ^ 63)) || decide (x ≥ 2 ^ 63)) = false) (c1 : (items.isEmpty || x == 1) = true) :
    Meets (Builtin.«tuple.__mul__» ⟨[.ref l, .int x u], []⟩) (fun _ R s => s.heap.get? l = some { cls := .type "tuple", dict := dd, data := .seq items n, slots := sl } ∧
      R (.ok (.ret (Value.ref l))) s) :=
  .of_wp fun prog w A R s h => by
    obtain ⟨hp, g, d, tk, os⟩ := s
    obtain ⟨hl, h⟩ := h
    have f1 := AutoSeq1.idx_int
    wp_walk using wpAny_loadPart' hl
    repeat (first
      | (refine wpAny_ite_false (decide_eq_false (by rw [c0]; exact Bool.false_ne_true)) ?_; wp_walk using wpAny_loadPart' hl)
      | (refine wpAny_ite_true (decide_eq_true c1) ?_; wp_walk using wpAny_loadPart' hl))
    exact ⟨_, rfl, h⟩

section
variable {X : Cx}
theorem op_rep1 {l : Addr} {xs : List V} {pins : List (Addr × Obj)} {s : Shared} {σ : L2.St} {H : Hp} {v u : Value} {Q : VK} (I : Inv X pins σ H s) (rx : RelV (.ref l) v) (ry : RelV (.int 1) u) (hT : SqT X.K H l xs) (q : Q (.ref l) H) :
    wpAny (model X.prog X.w) X.A (binaryOp .Mult v u) (EP X pins σ Q) X.xe s := by
  cases rx
  obtain ⟨t, rfl⟩ := ry
  obtain ⟨its, r, ⟨⟨cls, dd, data, sl⟩, ho, hc, n, hd⟩, hs⟩ := I.tuple hT
  simp only at hc hd
  subst hc hd
  refine wpAny_binaryOp_repeat_ref (T := "tuple") (U := "int") (by decide) ⟨_, ho, rfl⟩ (fun s' => typeIs_int s' 1 t) noFill_tuple_mul F.fills_int_mul F.slot_int_rmul repeat_tuple F.slot_int_index.lookup
    (call_meets F.slot_int_rmul (typeIs_int s 1 t) F.entry_int_rmul (F.args_int_rmul_2 _ _) (int_rmul_tuple 1 t l its.toArray n dd sl)
      ⟨ho, rfl, ⟨_, ho, rfl⟩, call_meets F.slot_tuple_mul ⟨_, ho, rfl⟩ F.entry_tuple_mul (F.args_tuple_mul_2 _ _) (tuple_mul1 l its.toArray n dd sl 1 t (by decide) (by simp)) ⟨ho, ?_⟩⟩)
  exact ⟨.ref l, H, I, rfl, q⟩

theorem op_addS : OpR X (binaryOp .Add) (rOp X.K (op2 .add)) := by
  intro pins s σ H x y v u Q I rx ry h
  obtain ⟨m, p, q, r, sr, rp, rq, e, k⟩ := h
  simp only [op2] at e
  unfold opAdd at e
  split at e
  · cases e
    cases rp.int
    cases rq.int
    exact op_add pins s σ H _ _ v u Q I rx ry ⟨_, _, rfl, rfl, k _ _ newV_int⟩
  · split at e
    · rename_i hl
      cases e
      obtain ⟨a, us, rfl, s1, r1⟩ := rp.tup
      obtain ⟨b, vs, rfl, s2, r2⟩ := rq.tup
      refine op_catA pins s σ H _ _ v u Q I rx ry ⟨a, b, us, vs, rfl, rfl, s1, s2, ?_, fun z => ?_, fun z z' => ?_, fun _ _ p hp => ?_⟩
      · rw [r1.length, r2.length, ← line_eq]; exact hl
      · subst z
        have e0 : ∀ {zs : List PV}, Rps X.K (hide m H) zs [] → zs = [] := fun {zs} h => by
          have := h.length
          exact List.eq_nil_of_length_eq_zero this.symm
        have := e0 r1
        subst this
        refine k _ _ ⟨Le.refl _, ?_⟩
        exact rq
      · subst z'
        have e0 : ∀ {zs : List PV}, Rps X.K (hide m H) zs [] → zs = [] := fun {zs} h => by
          have := h.length
          exact List.eq_nil_of_length_eq_zero this.symm
        have := e0 r2
        subst this
        rw [List.append_nil] at k
        refine k _ _ ⟨Le.refl _, ?_⟩
        exact rp
      · exact k _ _ (NewV.tup sr hp (r1.append r2))
    · cases e
  · split at e
    · rename_i hl
      cases e
      obtain ⟨a, us, rfl, s1, r1⟩ := rp.lst
      obtain ⟨b, vs, rfl, s2, r2⟩ := rq.lst
      refine op_cat pins s σ H _ _ v u Q I rx ry ⟨a, b, us, vs, rfl, rfl, s1, s2, ?_, fun p hp => ?_⟩
      · rw [r1.length, r2.length, ← line_eq]; exact hl
      · exact k _ _ ⟨p, _, rfl, hp, rfl, r1.append r2⟩
    · cases e
  · split at e
    · rename_i hl
      cases e
      cases rp.str
      cases rq.str
      exact op_add_str pins s σ H _ _ v u Q I rx ry ⟨_, _, rfl, rfl, by rw [← line_eq]; exact hl, k _ _ newV_str⟩
    · cases e
  · cases e
theorem op_subS : OpR X (binaryOp .Sub) (rOp X.K (op2 .sub)) := by
  intro pins s σ H x y v u Q I rx ry h
  obtain ⟨m, p, q, r, sr, rp, rq, e, k⟩ := h
  cases p <;> cases q <;> simp only [op2] at e <;> cases e
  cases rp.int
  cases rq.int
  exact op_sub pins s σ H _ _ v u Q I rx ry ⟨_, _, rfl, rfl, k _ _ newV_int⟩
theorem op_mulS : OpR X (binaryOp .Mult) (rOp X.K (op2 .mul)) := by
  intro pins s σ H x y v u Q I rx ry h
  obtain ⟨m, p, q, r, sr, rp, rq, e, k⟩ := h
  simp only [op2] at e
  unfold opMul at e
  split at e
  · split at e
    · rename_i hb
      cases e
      cases rp.int
      cases rq.int
      refine op_mul pins s σ H _ _ v u Q I rx ry ⟨_, _, rfl, rfl, ?_, k _ _ newV_int⟩
      simp only [big, Bool.or_eq_true, Bool.and_eq_true, decide_eq_true_eq] at hb
      exact hb
    · cases e
  · split at e
    · rename_i hb
      cases e
      simp only [Bool.and_eq_true, decide_eq_true_eq, Bool.not_eq_true'] at hb
      obtain ⟨⟨⟨h1, h2⟩, h3⟩, h4⟩ := hb
      obtain ⟨a, us, rfl, s1, r1⟩ := rp.tup
      cases rq.int
      have hne : us ≠ [] := fun z => by
        subst z
        have := r1.length
        rename_i xs _
        cases xs with
        | nil => simp at h1
        | cons _ _ => simp at this
      rename_i xs kk
      by_cases h5 : kk = 1
      · subst h5
        refine op_rep1 I rx ry s1 (k _ _ ⟨Le.refl _, ?_⟩)
        have e1 : (List.replicate (1 : Int).toNat xs).flatten = xs := by simp [List.replicate]
        rw [e1]
        exact rp
      · refine op_repT pins s σ H _ _ v u Q I rx ry ⟨a, _, us, rfl, rfl, s1, hne, by omega, h3, by rw [r1.length]; exact h4, fun p hp => ?_⟩
        exact k _ _ (NewV.tup sr hp (r1.rep _))
    · cases e
  · split at e
    · rename_i hb
      cases e
      simp only [Bool.and_eq_true, decide_eq_true_eq] at hb
      obtain ⟨⟨h1, h2⟩, h3⟩ := hb
      obtain ⟨a, us, rfl, s1, r1⟩ := rp.lst
      cases rq.int
      refine op_rep pins s σ H _ _ v u Q I rx ry ⟨a, _, us, rfl, rfl, s1, h1, h2, by rw [r1.length, ← line_eq]; exact h3, fun p hp => ?_⟩
      exact k _ _ ⟨p, _, rfl, hp, rfl, r1.rep _⟩
    · cases e
  · cases e
theorem op_fdivS : OpR X (binaryOp .FloorDiv) (rOp X.K (op2 .fdiv)) := by
  intro pins s σ H x y v u Q I rx ry h
  obtain ⟨m, p, q, r, sr, rp, rq, e, k⟩ := h
  cases p <;> cases q <;> simp only [op2] at e <;> first | (cases e; done) | skip
  split at e
  · rename_i hb
    cases e
    cases rp.int
    cases rq.int
    exact op_fdivN pins s σ H _ _ v u Q I rx ry ⟨_, _, rfl, rfl, hb, k _ _ newV_int⟩
  · cases e
theorem op_fmodS : OpR X (binaryOp .Mod) (rOp X.K (op2 .fmod)) := by
  intro pins s σ H x y v u Q I rx ry h
  obtain ⟨m, p, q, r, sr, rp, rq, e, k⟩ := h
  cases p <;> cases q <;> simp only [op2] at e <;> first | (cases e; done) | skip
  split at e
  · rename_i hb
    cases e
    cases rp.int
    cases rq.int
    exact op_modN pins s σ H _ _ v u Q I rx ry ⟨_, _, rfl, rfl, hb, k _ _ newV_int⟩
  · cases e
theorem op_powS : OpR X (binaryOp .Pow) (rOp X.K (op2 .pow)) := by
  intro pins s σ H x y v u Q I rx ry h
  obtain ⟨m, p, q, r, sr, rp, rq, e, k⟩ := h
  cases p <;> cases q <;> simp only [op2] at e <;> first | (cases e; done) | skip
  split at e
  · rename_i hb
    cases e
    cases rp.int
    cases rq.int
    exact op_pow pins s σ H _ _ v u Q I rx ry ⟨_, _, rfl, rfl, hb, k _ _ newV_int⟩
  · cases e
def bopOf : Operator → Option Op2
  | .Add => some .add
  | .Sub => some .sub
  | .Mult => some .mul
  | .FloorDiv => some .fdiv
  | .Mod => some .fmod
  | .Pow => some .pow
  | _ => none
theorem op_binS {op : Operator} {o : Op2} (e : bopOf op = some o) : OpR X (binaryOp op) (rOp X.K (op2 o)) := by
  cases op <;> cases e
  · exact op_addS
  · exact op_subS
  · exact op_mulS
  · exact op_fmodS
  · exact op_powS
  · exact op_fdivS

/-! ### order -/
theorem lexLt_eq : ∀ a b : List Int, HT.lexLt a b = lexLt a b
  | [], [] => rfl
  | [], _ :: _ => rfl
  | _ :: _, [] => rfl
  | x :: xs, y :: ys => by
    rw [HT.lexLt_cons]
    simp only [lexLt]
    rw [lexLt_eq xs ys]
theorem lexAt_eq (ns ms : List Int) : ∀ (k i : Nat), i + k = min ns.length ms.length →
    Ob.lexAt (fun j => decide (ns.getD j 0 = ms.getD j 0)) (fun j => decide (ns.getD j 0 ≤ ms.getD j 0)) (decide (ns.length ≤ ms.length)) i k = lexLe (ns.drop i) (ms.drop i) := by
  intro k
  induction k with
  | zero =>
    intro i hi
    rw [Ob.lexAt_zero]
    by_cases h : ns.length ≤ ms.length
    · have : ns.drop i = [] := List.drop_eq_nil_of_le (by omega)
      rw [this, decide_eq_true h]
      cases ms.drop i <;> rfl
    · have h1 : ms.drop i = [] := List.drop_eq_nil_of_le (by omega)
      have h2 : i < ns.length := by omega
      rw [h1, decide_eq_false h, List.drop_eq_getElem_cons h2]
      rfl
  | succ k ih =>
    intro i hi
    have h1 : i < ns.length := by omega
    have h2 : i < ms.length := by omega
    rw [Ob.lexAt_succ, List.drop_eq_getElem_cons h1, List.drop_eq_getElem_cons h2]
    simp only [lexLe]
    have e1 : ns.getD i 0 = ns[i] := by simp [List.getD, h1]
    have e2 : ms.getD i 0 = ms[i] := by simp [List.getD, h2]
    rw [e1, e2]
    by_cases h : ns[i] = ms[i]
    · rw [if_pos (decide_eq_true h), if_pos h]
      exact ih (i + 1) (by omega)
    · rw [if_neg (by simpa using h), if_neg h]
      exact decide_eq_decide.mpr (by omega)
theorem cmpI_inv {f : Int → Int → Bool} {g : List Int → List Int → Bool} {p q r : PV} (e : cmpI f g p q = some r) :
    (∃ i j, p = .int i ∧ q = .int j ∧ r = .bl (f i j)) ∨ ∃ xs ys a b, p = .tup xs ∧ q = .tup ys ∧ intsOf xs = some a ∧ intsOf ys = some b ∧ r = .bl (g a b) := by
  cases p <;> cases q <;> simp only [cmpI] at e <;> first | (cases e; done) | skip
  · cases e; exact .inl ⟨_, _, rfl, rfl, rfl⟩
  · rename_i xs ys
    cases ha : intsOf xs with
    | none => rw [ha] at e; cases e
    | some a =>
      cases hb : intsOf ys with
      | none => rw [ha, hb] at e; cases e
      | some b =>
        rw [ha, hb] at e
        cases e
        exact .inr ⟨_, _, a, b, rfl, rfl, ha, hb, rfl⟩
theorem op_ltS (hu : X.A.units < cLine) : OpR X (compareOp .Lt) (rOp X.K (op2 .lt)) := by
  intro pins s σ H x y v u Q I rx ry h
  obtain ⟨m, p, q, r, sr, rp, rq, e, k⟩ := h
  simp only [op2] at e
  rcases cmpI_inv e with ⟨i, j, rfl, rfl, rfl⟩ | ⟨xs, ys, a, b, rfl, rfl, ea, eb, rfl⟩
  · cases rp.int
    cases rq.int
    exact op_lt pins s σ H _ _ v u Q I rx ry ⟨_, _, rfl, rfl, k _ _ newV_bl⟩
  · obtain ⟨c, us, rfl, s1, r1⟩ := rp.tup
    obtain ⟨d, vs, rfl, s2, r2⟩ := rq.tup
    cases r1.intsOf ea
    cases r2.intsOf eb
    refine op_ltT hu pins s σ H _ _ v u Q I rx ry ⟨c, d, a, b, rfl, rfl, s1, s2, ?_⟩
    rw [lexLt_eq]
    exact k _ _ newV_bl
theorem op_leS (hu : X.A.units < cLine) : OpR X (compareOp .LtE) (rOp X.K (op2 .le)) := by
  intro pins s σ H x y v u Q I rx ry h
  obtain ⟨m, p, q, r, sr, rp, rq, e, k⟩ := h
  simp only [op2] at e
  rcases cmpI_inv e with ⟨i, j, rfl, rfl, rfl⟩ | ⟨xs, ys, a, b, rfl, rfl, ea, eb, rfl⟩
  · cases rp.int
    cases rq.int
    exact op_le pins s σ H _ _ v u Q I rx ry ⟨_, _, rfl, rfl, k _ _ newV_bl⟩
  · obtain ⟨c, us, rfl, s1, r1⟩ := rp.tup
    obtain ⟨d, vs, rfl, s2, r2⟩ := rq.tup
    cases r1.intsOf ea
    cases r2.intsOf eb
    refine op_leT hu pins s σ H _ _ v u Q I rx ry ⟨c, d, a, b, rfl, rfl, s1, s2, ?_⟩
    rw [lexAt_eq a b _ 0 (by simp)]
    exact k _ _ newV_bl
theorem op_gtS : OpR X (compareOp .Gt) (rOp X.K (op2 .gt)) := by
  intro pins s σ H x y v u Q I rx ry h
  obtain ⟨m, p, q, r, sr, rp, rq, e, k⟩ := h
  cases p <;> cases q <;> simp only [op2] at e <;> cases e
  cases rp.int
  cases rq.int
  exact op_gt pins s σ H _ _ v u Q I rx ry ⟨_, _, rfl, rfl, k _ _ newV_bl⟩
theorem op_geS : OpR X (compareOp .GtE) (rOp X.K (op2 .ge)) := by
  intro pins s σ H x y v u Q I rx ry h
  obtain ⟨m, p, q, r, sr, rp, rq, e, k⟩ := h
  cases p <;> cases q <;> simp only [op2] at e <;> cases e
  cases rp.int
  cases rq.int
  exact op_ge pins s σ H _ _ v u Q I rx ry ⟨_, _, rfl, rfl, k _ _ newV_bl⟩

/-! ### in -/
theorem Rp.flat {H : Hp} {K : PySem.W.Frag} {p : PV} {u : V} (f : flat p = true) (r : Rp K H p u) : flatV u = true := by
  cases p <;> simp [RS.flat] at f <;> (simp only [Rp] at r; subst r; rfl)
theorem Rp.eqV {H : Hp} {K : PySem.W.Frag} {p q : PV} {u v : V} (f : RS.flat p = true) (g : RS.flat q = true) (r : Rp K H p u) (r' : Rp K H q v) : L2.eqV u v = eqv p q := by
  cases p <;> simp [RS.flat] at f <;> (simp only [Rp] at r; subst r) <;> cases q <;> simp [RS.flat] at g <;> (simp only [Rp] at r'; subst r') <;> simp [eqv, L2.eqV]
theorem Rps.flat {H : Hp} {K : PySem.W.Frag} : ∀ {xs : List PV} {us : List V}, Rps K H xs us → xs.all RS.flat = true → us.all flatV = true
  | [], _, h, _ => by simp only [Rps] at h; subst h; rfl
  | x :: xs, _, h, f => by
    simp only [Rps] at h
    obtain ⟨u, r, rfl, h1, h2⟩ := h
    simp only [List.all_cons, Bool.and_eq_true] at f ⊢
    exact ⟨Rp.flat f.1 h1, Rps.flat h2 f.2⟩
theorem Rps.any {H : Hp} {K : PySem.W.Frag} {p : PV} {w : V} (f : RS.flat p = true) (r : Rp K H p w) : ∀ {xs : List PV} {us : List V}, Rps K H xs us → xs.all RS.flat = true → (us.any fun y => L2.eqV y w) = xs.any fun z => eqv z p
  | [], _, h, _ => by simp only [Rps] at h; subst h; rfl
  | x :: xs, _, h, g => by
    simp only [Rps] at h
    obtain ⟨u, rr, rfl, h1, h2⟩ := h
    simp only [List.all_cons, Bool.and_eq_true] at g
    rw [List.any_cons, List.any_cons, Rp.eqV g.1 f h1 r, Rps.any f r h2 g.2]
theorem opIn_inv {p q : PV} {b : Bool} (e : opIn p q = some b) : ∃ xs, rowOf q = some xs ∧ flat p = true ∧ xs.all flat = true ∧ b = xs.any fun z => eqv z p := by
  unfold opIn at e
  cases h : rowOf q with
  | none => rw [h] at e; cases e
  | some xs =>
    rw [h] at e
    have e' : (if flat p && xs.all flat then some (xs.any fun z => eqv z p) else none) = some b := e
    split at e'
    · rename_i hf
      simp only [Bool.and_eq_true] at hf
      cases e'
      exact ⟨xs, rfl, hf.1, hf.2, rfl⟩
    · cases e'
theorem Rr.flatR {m : List Addr} {H : Hp} {K : PySem.W.Frag} {p : PV} {u : V} (f : flat p = true) (r : Rr K m H p u) : Rp K (hide m H) p u := by
  cases p <;> simp [flat] at f <;> exact r
theorem op_inS : OpR X (compareOp .In) (rOp X.K (op2 .isIn)) := by
  intro pins s σ H x y v u Q I rx ry h
  obtain ⟨m, p, q, r, sr, rp, rq, e, k⟩ := h
  simp only [op2, Option.map_eq_some_iff] at e
  obtain ⟨b, e, rfl⟩ := e
  obtain ⟨xs, er, f, fs, rfl⟩ := opIn_inv e
  obtain ⟨a, us, rfl, s1, r1⟩ := rq.row er
  have rp' := rp.flatR f
  refine op_in_seq pins s σ H _ _ v u Q I rx ry ⟨a, us, rfl, s1, Rp.flat f rp', r1.flat fs, ?_⟩
  simp only [inV, Bool.false_eq_true, if_false]
  rw [r1.any f rp' fs]
  exact k _ _ newV_bl
theorem op_notInS : OpR X (compareOp .NotIn) (rOp X.K (op2 .notIn)) := by
  intro pins s σ H x y v u Q I rx ry h
  obtain ⟨m, p, q, r, sr, rp, rq, e, k⟩ := h
  simp only [op2, Option.map_eq_some_iff] at e
  obtain ⟨b, e, rfl⟩ := e
  obtain ⟨xs, er, f, fs, rfl⟩ := opIn_inv e
  obtain ⟨a, us, rfl, s1, r1⟩ := rq.row er
  have rp' := rp.flatR f
  refine op_notIn_seq pins s σ H _ _ v u Q I rx ry ⟨a, us, rfl, s1, Rp.flat f rp', r1.flat fs, ?_⟩
  simp only [inV, if_true]
  rw [r1.any f rp' fs]
  exact k _ _ newV_bl
def copOf : CmpOp → Option Op2
  | .Eq => some .eq
  | .NotEq => some .ne
  | .Lt => some .lt
  | .LtE => some .le
  | .Gt => some .gt
  | .GtE => some .ge
  | .In => some .isIn
  | .NotIn => some .notIn
  | _ => none
theorem op_cmpS (hu : X.A.units + 64 < cLine) {op : CmpOp} {o : Op2} (e : copOf op = some o) : OpR X (compareOp op) (rOp X.K (op2 o)) := by
  cases op <;> cases e
  · exact op_eqS hu
  · exact op_neS hu
  · exact op_ltS (by omega)
  · exact op_leS (by omega)
  · exact op_gtS
  · exact op_geS
  · exact op_inS
  · exact op_notInS

/-! ### places, slices -/
theorem ixAt_eq {α : Type} (xs : List α) (i : Int) : atI xs i = ixAt xs i := by
  unfold atI ixAt ixN
  by_cases h : 0 ≤ i
  · rw [if_pos h, if_pos h]
    by_cases h2 : i < xs.length
    · rw [if_pos h2]; rfl
    · rw [if_neg h2]
      show none = _
      rw [List.getElem?_eq_none (by omega)]
  · rw [if_neg h, if_neg h]
    by_cases h2 : -(xs.length : Int) ≤ i
    · rw [if_pos h2, if_pos h2]; rfl
    · rw [if_neg h2, if_neg h2]; rfl
theorem Rps.ixAt {H : Hp} {K : PySem.W.Frag} {xs : List PV} {us : List V} {i : Int} {p : PV} (h : Rps K H xs us) (e : RS.ixAt xs i = some p) : ∃ u, RS.ixAt us i = some u ∧ Rp K H p u := by
  unfold RS.ixAt at e ⊢
  rw [h.length]
  split at e
  · rename_i h1
    rw [if_pos h1]
    exact h.get e
  · rename_i h1
    rw [if_neg h1]
    split at e
    · rename_i h2
      rw [if_pos h2]
      exact h.get e
    · cases e
/-- o[i] hands on what stands there -/
def rIxS' (K : PySem.W.Frag) : R2 := fun x y H Q => ∃ m p q r, Tk m H ∧ Rr K m H p x ∧ Rr K m H q y ∧ opIdx p q = some r ∧ ∀ u, Rp K (hide m H) r u → Q u H
theorem ix_S : IxR X (rIxS' X.K) := by
  intro value slice pins s σ H x y v u Q I rx ry h hs
  obtain ⟨m, p, q, r, sr, rp, rq, e, k⟩ := h
  cases p <;> cases q <;> simp only [opIdx] at e <;> first | (cases e; done) | skip
  · obtain ⟨a, us, rfl, s1, r1⟩ := rp.tup
    cases rq.int
    obtain ⟨w, e1, r2⟩ := r1.ixAt e
    exact ix_tup value slice pins s σ H _ _ v u Q I rx ry ⟨a, us, _, w, rfl, rfl, s1, by rw [ixAt_eq]; exact e1, k _ r2⟩ hs
  · obtain ⟨a, us, rfl, s1, r1⟩ := rp.lst
    cases rq.int
    obtain ⟨w, e1, r2⟩ := r1.ixAt e
    exact ix_list value slice pins s σ H _ _ v u Q I rx ry ⟨a, us, _, w, rfl, rfl, SqL.of s1, by rw [ixAt_eq]; exact e1, k _ r2⟩ hs
theorem sIx_eq (n d : Nat) (o : Option Int) : HT.sIx n d o = sIx n d o := by cases o <;> rfl
theorem Rps.cut {H : Hp} {K : PySem.W.Frag} {xs : List PV} {us : List V} {lo hi : Option Int} (h : Rps K H xs us) : Rps K H (RS.cut xs lo hi) (cutV us lo hi) := by
  unfold RS.cut cutV
  rw [h.length, sIx_eq, sIx_eq]
  exact (h.drop _).take _
def rSlS (K : PySem.W.Frag) : V → Option Int → Option Int → Hp → VK → Prop := fun x lo hi H Q => ∃ m p r, Tk m H ∧ Rr K m H p x ∧ opSl p lo hi = some r ∧ ∀ u H', NewV K m H r u H' → Q u H'
theorem sl_S : SlR X (rSlS X.K) := by
  intro pins s σ H x v vl vu lo hi sl Q I rx hs pl pu h
  obtain ⟨m, p, r, sr, rp, e, k⟩ := h
  cases p <;> simp only [opSl] at e <;> cases e
  · obtain ⟨a, us, rfl, s1, r1⟩ := rp.tup
    refine sl_tupA pins s σ H _ v vl vu lo hi sl Q I rx hs pl pu ⟨a, us, rfl, s1, fun z => ?_, fun _ p hp => k _ _ (NewV.tup sr hp r1.cut)⟩
    refine k _ _ ⟨Le.refl _, ?_⟩
    rename_i xs
    have : cut xs lo hi = xs := by
      unfold cut
      obtain ⟨z1, z2⟩ := z
      rw [sIx_eq, r1.length] at z1 z2
      rw [z1, z2, List.drop_zero, Nat.sub_zero, List.take_length]
    rw [this]
    exact rp
  · obtain ⟨a, us, rfl, s1, r1⟩ := rp.lst
    exact sl_list pins s σ H _ v vl vu lo hi sl Q I rx hs pl pu ⟨a, us, rfl, SqL.of s1, fun p hp => k _ _ ⟨p, _, rfl, hp, rfl, r1.cut⟩⟩

/-! ### calls of one value -/
def rC1 (K : PySem.W.Frag) (f : PV → Option PV) : List V → Hp → VK → Prop := fun xs H Q => ∃ m p x r, xs = [x] ∧ Tk m H ∧ Rr K m H p x ∧ f p = some r ∧ ∀ u H', NewV K m H r u H' → Q u H'
theorem cr_len : CallR X (.builtin "len") (rC1 X.K (op1 .len)) := by
  intro pins s σ H xs us Q I r h
  obtain ⟨m, p, x, z, rfl, sr, rp, e, k⟩ := h
  have row : ∀ ys, rowOf p = some ys → Option.map (fun xs : List PV => PV.int xs.length) (rowOf p) = some z → wpAny (model X.prog X.w) X.A (call (.builtin "len") us) (EP X pins σ Q) X.xe s := fun ys ey e => by
    rw [ey] at e
    cases e
    obtain ⟨a, ws, rfl, s1, r1⟩ := rp.row ey
    refine call_len_seq pins s σ H _ us Q I r ⟨a, ws, rfl, s1, ?_⟩
    rw [r1.length]
    exact k _ _ newV_int
  cases p with
  | str z =>
    simp only [op1] at e
    split at e
    · rename_i hz
      cases e
      cases rp.str
      exact call_len_str pins s σ H _ us Q I r ⟨z, rfl, by rw [← line_eq]; exact hz, k _ _ newV_int⟩
    · cases e
  | tup ys => exact row ys rfl e
  | lst ys => exact row ys rfl e
  | scr ns => exact row _ rfl e
  | _ => cases e
theorem cr_tuple : CallR X (.type "tuple") (rC1 X.K (op1 .tuple)) := by
  intro pins s σ H xs us Q I r h
  obtain ⟨m, p, x, z, rfl, sr, rp, e, k⟩ := h
  cases p with
  | tup ys =>
    cases e
    obtain ⟨a, ws, rfl, s1, r1⟩ := rp.tup
    exact call_tuple_of pins s σ H _ us Q I r ⟨a, ws, rfl, .inr ⟨s1, k _ _ ⟨Le.refl _, rp⟩⟩⟩
  | lst ys =>
    cases e
    obtain ⟨a, ws, rfl, s1, r1⟩ := rp.lst
    exact call_tuple_of pins s σ H _ us Q I r ⟨a, ws, rfl, .inl ⟨SqL.of s1, fun l hl => k _ _ (NewV.tup sr hl r1)⟩⟩
  | scr ns =>
    cases e
    obtain ⟨a, rfl, s1⟩ := rp.scr
    exact call_tuple_of pins s σ H _ us Q I r ⟨a, _, rfl, .inl ⟨s1, fun l hl => k _ _ (NewV.tup sr hl Rps.ints)⟩⟩
  | _ => cases e
theorem cr_list : CallR X (.type "list") (rC1 X.K (op1 .list)) := by
  intro pins s σ H xs us Q I r h
  obtain ⟨m, p, x, z, rfl, sr, rp, e, k⟩ := h
  have row : ∀ ys, rowOf p = some ys → Option.map PV.lst (rowOf p) = some z → wpAny (model X.prog X.w) X.A (call (.type "list") us) (EP X pins σ Q) X.xe s := fun ys ey e => by
    rw [ey] at e
    cases e
    obtain ⟨a, ws, rfl, s1, r1⟩ := rp.row ey
    exact call_list_of pins s σ H _ us Q I r ⟨a, ws, rfl, s1, fun l hl => k _ _ ⟨l, _, rfl, hl, rfl, r1⟩⟩
  cases p with
  | tup ys => exact row ys rfl e
  | lst ys => exact row ys rfl e
  | scr ns => exact row _ rfl e
  | _ => cases e
theorem cr_int : CallR X (.type "int") (rC1 X.K (op1 .int)) := by
  intro pins s σ H xs us Q I r h
  obtain ⟨m, p, x, z, rfl, sr, rp, e, k⟩ := h
  cases p with
  | int i => cases e; cases rp.int; exact call_int1 pins s σ H _ us Q I r (.inl ⟨i, rfl, k _ _ newV_int⟩)
  | bl i => cases e; cases rp.bl; exact call_int1 pins s σ H _ us Q I r (.inr ⟨i, rfl, k _ _ newV_int⟩)
  | _ => cases e
theorem cr_abs : CallR X (.builtin "abs") (rC1 X.K (op1 .abs)) := by
  intro pins s σ H xs us Q I r h
  obtain ⟨m, p, x, z, rfl, sr, rp, e, k⟩ := h
  cases p with
  | int i => cases e; cases rp.int; exact call_abs pins s σ H _ us Q I r ⟨i, rfl, k _ _ newV_int⟩
  | _ => cases e
theorem cr_sumS (hc : X.calm = true) : CallR X (.builtin "sum") (rC1 X.K (op1 .sum)) := by
  intro pins s σ H xs us Q I r h
  obtain ⟨m, p, x, z, rfl, sr, rp, e, k⟩ := h
  cases p with
  | lst ys =>
    simp only [op1, Option.map_eq_some_iff] at e
    obtain ⟨ns, e, rfl⟩ := e
    obtain ⟨a, ws, rfl, s1, r1⟩ := rp.lst
    cases r1.intsOf e
    exact cr_sum hc pins s σ H _ us Q I r ⟨a, ns, rfl, SqL.of s1, k _ _ newV_int⟩
  | _ => cases e
theorem foldl_max : ∀ (xs : List Int) (x : Int), (xs.foldl max x = x ∨ xs.foldl max x ∈ xs) ∧ x ≤ xs.foldl max x ∧ ∀ y ∈ xs, y ≤ xs.foldl max x
  | [], x => by simp
  | z :: xs, x => by
    obtain ⟨h1, h2, h3⟩ := foldl_max xs (max x z)
    rw [List.foldl_cons]
    refine ⟨?_, by omega, fun y hy => ?_⟩
    · rcases h1 with h1 | h1
      · by_cases h : x ≤ z
        · exact .inr (by rw [h1]; simp [Int.max_eq_right h])
        · exact .inl (by rw [h1]; omega)
      · exact .inr (by simp [h1])
    · rcases List.mem_cons.mp hy with rfl | hy
      · omega
      · exact h3 y hy
theorem foldl_min : ∀ (xs : List Int) (x : Int), (xs.foldl min x = x ∨ xs.foldl min x ∈ xs) ∧ xs.foldl min x ≤ x ∧ ∀ y ∈ xs, xs.foldl min x ≤ y
  | [], x => by simp
  | z :: xs, x => by
    obtain ⟨h1, h2, h3⟩ := foldl_min xs (min x z)
    rw [List.foldl_cons]
    refine ⟨?_, by omega, fun y hy => ?_⟩
    · rcases h1 with h1 | h1
      · by_cases h : z ≤ x
        · exact .inr (by rw [h1]; simp [Int.min_eq_right h])
        · exact .inl (by rw [h1]; omega)
      · exact .inr (by simp [h1])
    · rcases List.mem_cons.mp hy with rfl | hy
      · omega
      · exact h3 y hy
theorem maxI_uniq {ns : List Int} {m k : Int} (e : maxI ns = some k) (h1 : m ∈ ns) (h2 : ∀ y ∈ ns, y ≤ m) : m = k := by
  cases ns with
  | nil => cases e
  | cons x xs =>
    cases e
    obtain ⟨a, b, c⟩ := foldl_max xs x
    have h3 : xs.foldl max x ≤ m := by
      rcases a with a | a
      · rw [a]; exact h2 x (by simp)
      · exact h2 _ (by simp [a])
    rcases List.mem_cons.mp h1 with rfl | h1
    · omega
    · have := c m h1; omega
theorem minI_uniq {ns : List Int} {m k : Int} (e : minI ns = some k) (h1 : m ∈ ns) (h2 : ∀ y ∈ ns, m ≤ y) : m = k := by
  cases ns with
  | nil => cases e
  | cons x xs =>
    cases e
    obtain ⟨a, b, c⟩ := foldl_min xs x
    have h3 : m ≤ xs.foldl min x := by
      rcases a with a | a
      · rw [a]; exact h2 x (by simp)
      · exact h2 _ (by simp [a])
    rcases List.mem_cons.mp h1 with rfl | h1
    · omega
    · have := c m h1; omega
theorem cr_maxS (hc : X.calm = true) : CallR X (.builtin "max") (rC1 X.K (op1 .max)) := by
  intro pins s σ H xs us Q I r h
  obtain ⟨m, p, x, z, rfl, sr, rp, e, k⟩ := h
  cases p with
  | lst ys =>
    simp only [op1, Option.bind_eq_some_iff, Option.map_eq_some_iff] at e
    obtain ⟨ns, e, mx, e2, rfl⟩ := e
    obtain ⟨a, ws, rfl, s1, r1⟩ := rp.lst
    cases r1.intsOf e
    refine L2.cr_max hc pins s σ H _ us Q I r ⟨a, ns, rfl, SqL.of s1, ?_, fun m h1 h2 => ?_⟩
    · cases ns with
      | nil => cases e2
      | cons _ _ => simp
    · rw [maxI_uniq e2 h1 h2]
      exact k _ _ newV_int
  | _ => cases e
theorem cr_minS (hc : X.calm = true) : CallR X (.builtin "min") (rC1 X.K (op1 .min)) := by
  intro pins s σ H xs us Q I r h
  obtain ⟨m, p, x, z, rfl, sr, rp, e, k⟩ := h
  cases p with
  | lst ys =>
    simp only [op1, Option.bind_eq_some_iff, Option.map_eq_some_iff] at e
    obtain ⟨ns, e, mx, e2, rfl⟩ := e
    obtain ⟨a, ws, rfl, s1, r1⟩ := rp.lst
    cases r1.intsOf e
    refine L2.cr_min hc pins s σ H _ us Q I r ⟨a, ns, rfl, SqL.of s1, ?_, fun m h1 h2 => ?_⟩
    · cases ns with
      | nil => cases e2
      | cons _ _ => simp
    · rw [minI_uniq e2 h1 h2]
      exact k _ _ newV_int
  | _ => cases e
theorem cr_allS (hc : X.calm = true) : CallR X (.builtin "all") (rC1 X.K (op1 .all)) := by
  intro pins s σ H xs us Q I r h
  obtain ⟨m, p, x, z, rfl, sr, rp, e, k⟩ := h
  cases p with
  | lst ys =>
    simp only [op1, Option.map_eq_some_iff] at e
    obtain ⟨ns, e, rfl⟩ := e
    obtain ⟨a, ws, rfl, s1, r1⟩ := rp.lst
    cases r1.blsOf e
    exact L2.cr_all hc pins s σ H _ us Q I r ⟨a, ns, rfl, SqL.of s1, k _ _ newV_bl⟩
  | _ => cases e
theorem cr_anyS (hc : X.calm = true) : CallR X (.builtin "any") (rC1 X.K (op1 .any)) := by
  intro pins s σ H xs us Q I r h
  obtain ⟨m, p, x, z, rfl, sr, rp, e, k⟩ := h
  cases p with
  | lst ys =>
    simp only [op1, Option.map_eq_some_iff] at e
    obtain ⟨ns, e, rfl⟩ := e
    obtain ⟨a, ws, rfl, s1, r1⟩ := rp.lst
    cases r1.blsOf e
    exact L2.cr_any hc pins s σ H _ us Q I r ⟨a, ns, rfl, SqL.of s1, k _ _ newV_bl⟩
  | _ => cases e
/-- two values -/
def rC2 (K : PySem.W.Frag) (f : PV → PV → Option PV) : List V → Hp → VK → Prop := fun xs H Q => ∃ x y, xs = [x, y] ∧ rOp K f x y H Q
theorem cr_max2 (hc : X.calm = true) : CallR X (.builtin "max") (rC2 X.K (op2 .max)) := by
  intro pins s σ H xs us Q I r h
  obtain ⟨x, y, rfl, m, p, q, z, sr, rp, rq, e, k⟩ := h
  cases p <;> cases q <;> simp only [op2] at e <;> cases e
  cases rp.int
  cases rq.int
  exact call_max2 hc pins s σ H _ us Q I r ⟨_, _, rfl, k _ _ newV_int⟩
theorem cr_min2 (hc : X.calm = true) : CallR X (.builtin "min") (rC2 X.K (op2 .min)) := by
  intro pins s σ H xs us Q I r h
  obtain ⟨x, y, rfl, m, p, q, z, sr, rp, rq, e, k⟩ := h
  cases p <;> cases q <;> simp only [op2] at e <;> cases e
  cases rp.int
  cases rq.int
  exact call_min2 hc pins s σ H _ us Q I r ⟨_, _, rfl, k _ _ newV_int⟩
/-! ### isinstance -/
theorem kit_tab : ∀ t ∈ [Ty.bool, .int, .str, .tuple, .list], ∀ p ∈ [PV.non, .bl true, .int 0, .str ⟨#[]⟩, .tup [], .lst []], ∀ n, pyTy p = some n → kitB n t.name = isTy t p := by
  intro t ht p hp n hn
  simp only [List.mem_cons, List.not_mem_nil, or_false] at ht hp
  rcases ht with rfl | rfl | rfl | rfl | rfl <;> rcases hp with rfl | rfl | rfl | rfl | rfl | rfl <;> (simp only [pyTy, Option.some.injEq] at hn; subst hn; decide +kernel)
theorem kit_of2 {K : PySem.W.Frag} (t : Ty) (p : PV) (n : String) (b : Bool) (h : pyTy p = some n) (e : isTy t p = some b) : PySem.W.kitOne K (.type n) (.type t.name) = some b := by
  refine kit_ty ?_
  rw [← e]
  have ht : t ∈ [Ty.bool, .int, .str, .tuple, .list] := by cases t <;> simp
  cases p with
  | non => exact kit_tab t ht .non (by simp) n h
  | bl x =>
    have := kit_tab t ht (.bl true) (by simp) n h
    rw [this]; cases t <;> rfl
  | int x =>
    have := kit_tab t ht (.int 0) (by simp) n h
    rw [this]; cases t <;> rfl
  | str x =>
    have := kit_tab t ht (.str ⟨#[]⟩) (by simp) n h
    rw [this]; cases t <;> rfl
  | tup x =>
    have := kit_tab t ht (.tup []) (by simp) n h
    rw [this]; cases t <;> rfl
  | lst x =>
    have := kit_tab t ht (.lst []) (by simp) n h
    rw [this]; cases t <;> rfl
  | scr x => cases h
/-- isinstance(x, T): the value, then the type's name as a value -/
def rIsiS (K : PySem.W.Frag) (t : Ty) : List V → Hp → VK → Prop := fun xs H Q => ∃ m p x r, xs = [x, .ty t.name] ∧ Tk m H ∧ Rr K m H p x ∧ op1 (.isi t) p = some r ∧ ∀ u H', NewV K m H r u H' → Q u H'
theorem cr_isi {t : Ty} : CallR X (.builtin "isinstance") (rIsiS X.K t) := by
  intro pins s σ H xs us Q I r h
  obtain ⟨m, p, x, z, rfl, sr, rp, e, k⟩ := h
  simp only [op1, Option.map_eq_some_iff] at e
  obtain ⟨b, e, rfl⟩ := e
  have go : ∀ (n : String), pyTy p = some n → TyX X.K H x (.type n) → wpAny (model X.prog X.w) X.A (call (.builtin "isinstance") us) (EP X pins σ Q) X.xe s := fun n hn ty =>
    call_isi pins s σ H _ us Q I r ⟨x, .ty t.name, .type n, .type t.name, b, rfl, .ty _, ty, kit_of2 t p n b hn e, k _ _ newV_bl⟩
  cases p with
  | non => cases rp.non; exact go _ rfl (.base .non)
  | bl i => cases rp.bl; exact go _ rfl (.base (.bl i))
  | int i => cases rp.int; exact go _ rfl (.base (.int i))
  | str i => cases rp.str; exact go _ rfl (.base (.str i))
  | tup ys =>
    obtain ⟨a, ws, rfl, s1, r1⟩ := rp.tup
    rcases s1 with (s1 | ⟨o, s1⟩) | ⟨o, _, _, s1, s2, _⟩
    · exact go _ rfl (.base (.tup s1))
    · exact go _ rfl (.fTuple s1)
    · exact go _ rfl (.kTuple s1 s2)
  | lst ys =>
    obtain ⟨a, ws, rfl, s1, r1⟩ := rp.lst
    exact go _ rfl (.base (.lst s1))
  | scr ns => cases t <;> cases e
end
end RS

set_option Elab.async false
set_option linter.all false
set_option maxRecDepth 100000
set_option maxHeartbeats 4000000
namespace RS
open PySem PySem.Spec PyProof.Rows L2

/-! ### from the tree to the engine's text -/
structure TC where
  N : List Str
  sc : Scope
  fns : Option (List (Str × NameKind))
  fx : List (Str × Nat)
def slotOf : List Str → Str → Option Nat
  | [], _ => none
  | y :: r, x => if x = y then some 0 else (slotOf r x).map (· + 1)
theorem slotOf_get : ∀ {N : List Str} {x : Str} {i : Nat}, slotOf N x = some i → N[i]? = some x
  | [], _, _, h => by cases h
  | y :: r, x, i, h => by
    simp only [slotOf] at h
    split at h
    · cases h; rename_i e; rw [e]; rfl
    · obtain ⟨j, h1, rfl⟩ := Option.map_eq_some_iff.mp h
      simpa using slotOf_get h1
def TC.vis (T : TC) (x : Str) : Bool := (match T.sc.names.lookup x with | some .local => true | some .cell => true | some .free => true | _ => false) && !(x == "__debug__") && !(x == "__classdict__")
def TC.loc (T : TC) (x : Str) : Bool := match T.sc.names.lookup x with
  | some .local => true
  | some .cell => (match T.fns with | none => true | some l => l.lookup x == some .cell)
  | _ => false
def TC.glo (T : TC) (x : Str) : Bool := (T.sc.names.lookup x == some .globalImplicit) && !(x == "__debug__")
def trC : Const → Option PV
  | .none => some .non
  | .bool b => some (.bl b)
  | .int i => some (.int i)
  | .str s => some (.str s)
  | _ => none
def trL (f : Expr → Option Ex) : List Expr → Option Exs
  | [] => some .nil
  | e :: r => do
    let x ← f e
    let xs ← trL f r
    some (.cons x xs)
def Exs.len : Exs → Nat
  | .nil => 0
  | .cons _ r => r.len + 1
def trTs (T : TC) : List Expr → Option (List Nat)
  | [] => some []
  | .Name x _ :: r => if T.loc x then do
      let i ← slotOf T.N x
      let is ← trTs T r
      some (i :: is)
    else none
  | _ :: _ => none
def trT (T : TC) : Expr → Option Tg
  | .Name x _ => if T.loc x then (slotOf T.N x).map .name else none
  | .Tuple es _ _ => (trTs T es).map .tup
  | _ => none
def Tg.slots : Tg → List Nat
  | .name i => [i]
  | .tup is => is
def isSet : Expr → Bool
  | .Set .. => true
  | _ => false
def isNone' : Expr → Bool
  | .Constant .none _ _ => true
  | _ => false
def ownOf (N : List Str) : List (Str × NameKind) → List (Str × Nat)
  | [] => []
  | (x, k) :: r => (if k == .local || k == .cell then (match slotOf N x with | some i => [(x, i)] | none => []) else []) ++ ownOf N r
/-- a built-in of one value, by its name -/
def blt1 (x : Str) : Option Op1 :=
  if x = "len" then some .len else if x = "tuple" then some .tuple else if x = "list" then some .list else if x = "int" then some .int
  else if x = "sum" then some .sum else if x = "max" then some .max else if x = "min" then some .min else if x = "abs" then some .abs
  else if x = "all" then some .all else if x = "any" then some .any else none
def blt2 (x : Str) : Option Op2 := if x = "max" then some .max else if x = "min" then some .min else none
def tyOf (x : Str) : Option Ty :=
  if x = "bool" then some .bool else if x = "int" then some .int else if x = "str" then some .str else if x = "tuple" then some .tuple else if x = "list" then some .list else none
def mtOf (x : Str) (n : Nat) : Option Mt :=
  if x = "append" then (if n = 1 then some .append else none) else if x = "pop" then (if n = 0 then some .pop else if n = 1 then some .popAt else none)
  else if x = "reverse" then (if n = 0 then some .reverse else none) else none
/-- the parts of a comprehension -/
structure Cmp where
  vs : List Nat
  tg : Tg
  it : It
  cond : Exs
  elt : Ex
def Cmp.ex (c : Cmp) : Ex := .comp c.vs c.tg c.it c.cond c.elt
def TC.blk (T : TC) (scope : Scope) : TC := { T with sc := relS scope T.sc, fns := some scope.names }
def trIt (f : Expr → Option Ex) (T : TC) (e : Expr) : Option It :=
  match e with
  | .Call (.Name x _) [a] [] _ => if x = "range" ∧ T.glo "range" = true ∧ T.fx.lookup ("range" : Str) = none then (trL f [a]).map .rng else (f e).map .ex
  | .Call (.Name x _) [a, b] [] _ => if x = "range" ∧ T.glo "range" = true ∧ T.fx.lookup ("range" : Str) = none then (trL f [a, b]).map .rng else (f e).map .ex
  | e => if isSet e then none else (f e).map .ex
def trCmp (f : TC → Expr → Option Ex) (T : TC) (elt tg iter : Expr) (ifs : List Expr) (scope : Scope) : Option Cmp :=
  let own := ownOf T.N scope.names
  let B := T.blk scope
  if blkC T.N T.sc scope own then do
    let it ← trIt (f T) T iter
    let t ← trT B tg
    let c ← trL (f B) ifs
    let x ← f B elt
    if t.slots.all (fun i => (own.map (·.2)).contains i) && decide (c.len ≤ 1) then some ⟨own.map (·.2), t, it, c, x⟩ else none
  else none
def trE : Nat → TC → Expr → Option Ex
  | 0, _, _ => none
  | n + 1, T, e => match e with
    | .Name x _ => if T.vis x then (slotOf T.N x).map .var else none
    | .Constant c _ _ => (trC c).map .cst
    | .Tuple es _ _ => (trL (trE n T) es).map .tup
    | .List es _ => (trL (trE n T) es).map .lst
    | .BinOp a op b _ => do
      let o ← bopOf op
      let x ← trE n T a
      let y ← trE n T b
      some (.op2 o x y)
    | .UnaryOp op a _ => do
      let x ← trE n T a
      match op with
      | .Not => some (.op1 .not x)
      | .USub => some (.op1 .neg x)
      | _ => none
    | .BoolOp op (a :: rest) pos => do
      let x ← trE n T a
      match rest with
      | [] => some x
      | b :: r => do
        let y ← trE n T (.BoolOp op (b :: r) pos)
        match op with
        | .And => some (.and x y)
        | .Or => some (.or x y)
    | .Compare a [op] [b] _ => do
      let x ← trE n T a
      if isNone' b then (match op with
        | .Is => some (.op1 .isNon x)
        | .IsNot => some (.op1 .notNon x)
        | _ => none)
      else if isSet b then none else do
        let o ← copOf op
        let y ← trE n T b
        some (.op2 o x y)
    | .Compare a [op, op'] [b, c] _ => do
      let o ← copOf op
      let o' ← copOf op'
      let x ← trE n T a
      let y ← trE n T b
      let z ← trE n T c
      if isSet c then none else some (.chain o o' x y z)
    | .IfExp c a b _ => do
      let x ← trE n T c
      let y ← trE n T a
      let z ← trE n T b
      some (.ite x y z)
    | .Subscript a (.Slice lo hi none _) _ => do
      let x ← trE n T a
      let l ← trL (trE n T) lo.toList
      let h ← trL (trE n T) hi.toList
      some (.slc x l h)
    | .Subscript a b _ => do
      let x ← trE n T a
      let y ← trE n T b
      some (.op2 .idx x y)
    | .ListComp elt [⟨tg, iter, ifs, 0⟩] scope _ => (trCmp (trE n) T elt tg iter ifs scope).map Cmp.ex
    | .Call (.Name x _) args [] _ =>
      if T.glo x then
        match T.fx.lookup x with
        | some f => (trL (trE n T) args).map (.call f)
        | none => (match args with
          | [a] => do
            let o ← blt1 x
            let y ← trE n T a
            some (.op1 o y)
          | [a, b] =>
            if x = "isinstance" then (match b with
              | .Name t _ => do
                let y ← trE n T a
                let ty ← tyOf t
                if T.glo t && (T.fx.lookup t).isNone then some (.op1 (.isi ty) y) else none
              | _ => none)
            else do
              let o ← blt2 x
              let y ← trE n T a
              let z ← trE n T b
              some (.op2 o y z)
          | _ => none)
      else none
    | .Call (.Attribute (.Name o p) m ap) args [] cp => if ap.endLine == cp.line then do
      let k ← mtOf m args.length
      let x ← trE n T (.Name o p)
      let ys ← trL (trE n T) args
      some (.mut k x ys)
      else none
    | _ => none

/-! ### the readings -/
section
variable (K : PySem.W.Frag) (cf : Nat → List Val → Sto → Out (Val × Sto))
def tE (x : Ex) : TE := fun σ H Q => ∃ Z m ρ S v S', SR K Z m S H ∧ ER K Z m H ρ σ ∧ evalE cf x ρ S = .ok (v, S') ∧ ∀ m' H' u, Post K Z m H v S' u m' H' → Q u H'
def tT (x : Ex) : TT := fun σ H Q => ∃ Z m ρ S v S' p, SR K Z m S H ∧ ER K Z m H ρ σ ∧ evalE cf x ρ S = .ok (v, S') ∧ rd S' v = .ok p ∧ trOk p = true ∧ ∀ m' H', Stp m H m' H' → SR K Z m' S' H' → Q (truthy p) H'
/-- a row of arguments -/
def Rvs (Z m : List Addr) (H : Hp) : List Val → List V → Prop
  | [], us => us = []
  | v :: vs, us => ∃ u r, us = u :: r ∧ Rv K Z m H v u ∧ Rvs Z m H vs r
def tA (xs : Exs) : TA := fun σ H Q => ∃ Z m ρ S vs S', SR K Z m S H ∧ ER K Z m H ρ σ ∧ evalEs cf xs ρ S = .ok (vs, S') ∧ ∀ m' H' us, Stp m H m' H' → SR K Z m' S' H' → Rvs K Z m' H' vs us → Q us H'
end
section
variable {X : Cx}
theorem PE.imp {e : Expr} {t t' : TE} (h : PE X e t) (i : ∀ σ H Q, t' σ H Q → t σ H Q) : PE X e t' := ⟨fun pins s σ H Q I q => h.run pins s σ H Q I (i σ H Q q)⟩
theorem PT.imp {e : Expr} {t t' : TT} (h : PT X e t) (i : ∀ σ H Q, t' σ H Q → t σ H Q) : PT X e t' := ⟨fun pins s σ H Q I q => h.run pins s σ H Q I (i σ H Q q)⟩
theorem PA.imp {e : List Expr} {t t' : TA} (h : PA X e t) (i : ∀ σ H Q, t' σ H Q → t σ H Q) : PA X e t' := ⟨fun pos pins s σ H Q I q => h.run pos pins s σ H Q I (i σ H Q q)⟩
theorem PS.imp {e : Stmt} {t t' : TS} (h : PS X e t) (i : ∀ D σ H, t' D σ H → t D σ H) : PS X e t' := ⟨fun pins s σ H D I q => h.run pins s σ H D I (i D σ H q)⟩
theorem PSs.imp {e : List Stmt} {t t' : TS} (h : PSs X e t) (i : ∀ D σ H, t' D σ H → t D σ H) : PSs X e t' := ⟨fun pins s σ H D I q => h.run pins s σ H D I (i D σ H q)⟩
theorem PI.imp {tg iter : Expr} {t t' : TI} (h : PI X tg iter t) (i : ∀ σ H Q, t' σ H Q → t σ H Q) : PI X tg iter t' := ⟨fun pins s σ H Q I q => h.run pins s σ H Q I (i σ H Q q)⟩
theorem PG.imp {tg : Expr} {t t' : TG} (h : PG X tg t) (i : ∀ v σ H Q, t' v σ H Q → t v σ H Q) : PG X tg t' := ⟨fun pins s σ H v u Q I r q => h.run pins s σ H v u Q I r (i v σ H Q q)⟩
end
section
variable {K : PySem.W.Frag} {cf : Nat → List Val → Sto → Out (Val × Sto)}
theorem Rvs.stp {Z m m' : List Addr} {H H' : Hp} (s : Stp m H m' H') : ∀ {vs : List Val} {us : List V}, Rvs K Z m H vs us → Rvs K Z m' H' vs us
  | [], _, h => by simpa only [Rvs] using h
  | v :: vs, _, h => by
    simp only [Rvs] at h ⊢
    obtain ⟨u, r, rfl, h1, h2⟩ := h
    exact ⟨u, r, rfl, h1.stp s, Rvs.stp s h2⟩
theorem Rvs.length {Z m : List Addr} {H : Hp} : ∀ {vs : List Val} {us : List V}, Rvs K Z m H vs us → us.length = vs.length
  | [], _, h => by simp only [Rvs] at h; subst h; rfl
  | v :: vs, _, h => by
    simp only [Rvs] at h
    obtain ⟨u, r, rfl, h1, h2⟩ := h
    simp only [List.length_cons, Rvs.length h2]
theorem Rvs.items {Z m : List Addr} {H : Hp} : ∀ {vs : List Val} {us : List V} {ps : List PV}, Rvs K Z m H vs us → RS.items vs = .ok ps → Rps K (hide (Z ++ m) H) ps us
  | [], _, ps, h, e => by simp only [Rvs] at h; subst h; simp only [RS.items] at e; cases e; exact Rps.nil
  | v :: vs, _, ps, h, e => by
    simp only [Rvs] at h
    obtain ⟨u, r, rfl, h1, h2⟩ := h
    simp only [RS.items] at e
    obtain ⟨p, e1, e⟩ := bind_ok e
    obtain ⟨qs, e2, e⟩ := bind_ok e
    cases e
    refine Rps.cons ?_ (Rvs.items h2 e2)
    cases v with
    | pv q => cases e1; exact h1
    | loc l => cases e1
    | new c => exact h1.elim
/-- the frame: what a name holds -/
theorem ER.get {Z m : List Addr} {H : Hp} {ρ : Env} {σ : L2.St} (r : ER K Z m H ρ σ) {i : Nat} {v : Val} (e : getv ρ i = .ok v) : ∃ u, σ[i]? = some (some u) ∧ Rv K Z m H v u := by
  unfold getv at e
  split at e
  · cases e; exact r.2 i _ ‹_›
  · cases e
theorem Rv.post {Z m : List Addr} {S : Sto} {H : Hp} {v : Val} {u : V} (s : SR K Z m S H) (h : Rv K Z m H v u) : Post K Z m H v S u m H := by
  cases v with
  | pv p => exact ⟨Stp.refl _ _, s, h⟩
  | loc l => exact ⟨Stp.refl _ _, s, h⟩
  | new c => exact h.elim
/-- one behind the other -/
theorem Post.after {Z m m1 m' : List Addr} {H H1 H' : Hp} {v : Val} {S' : Sto} {u : V} (s : Stp m H m1 H1) (h : Post K Z m1 H1 v S' u m' H') : Post K Z m H v S' u m' H' := by
  cases v with
  | pv p => exact ⟨s.trans h.1, h.2.1, h.2.2⟩
  | loc l => exact ⟨s.trans h.1, h.2.1, h.2.2⟩
  | new c =>
    cases c with
    | lst xs =>
      obtain ⟨p, us, e, n, nz, hn, hp, st, sr, r⟩ := h
      refine ⟨p, us, e, n, nz, ?_, hp, s.trans st, sr, r⟩
      cases q : H p with
      | none => rfl
      | some o =>
        have n2 : p ∉ m := fun z => n (st.mem (s.mem z))
        rw [s.ext p o q n2] at hn
        cases hn
end

/-! ### what a context must know -/
/-- a def's promise at its level -/
def spF (K : PySem.W.Frag) (g : List Val → Sto → Out (Val × Sto)) (n : Nat) : Sp := fun us H Q _ => us.length = n ∧ ∃ Z m S vs v S', SR K Z m S H ∧ Rvs K Z m H vs us ∧ g vs S = .ok (v, S') ∧ ∀ m' H' u, Post K Z m H v S' u m' H' → Q u H'
def bltNames : List Str := ["len", "tuple", "list", "int", "sum", "max", "min", "abs", "all", "any", "range", "isinstance", "bool", "str"]
structure XOk (X : Cx) (T : TC) (cf : Nat → List Val → Sto → Out (Val × Sto)) : Prop where
  sc : X.env.scope = T.sc
  N : X.N = T.N
  nd : X.N.Nodup
  calm : X.calm = true
  fn : ∀ x, (match T.fns with | none => true | some l => l.lookup x == some .cell) = true → X.fn x = true
  xe : X.xe = fun _ _ => False
  blt : ∀ x ∈ bltNames, T.fx.lookup x = none → X.mg x = none
  fns : ∀ x f, T.fx.lookup x = some f → ∃ k fa fd ps, Room k X.A ∧ X.mg x = some (.ref fa) ∧ PySem.W.keepIn X.K (.ref fa) = true ∧ Binds X.K fd ps [] ∧ FnOk X.prog X.w X.K X.mg X.base CX0 k fa fd ps (spF X.K (cf f) ps.length) ∧ ∀ vs S r, cf f vs S = .ok r → vs.length = ps.length
  room : Room 0 X.A
section
variable {X : Cx} {T : TC} {cf : Nat → List Val → Sto → Out (Val × Sto)}
theorem XOk.vis (o : XOk X T cf) {x : Str} (h : T.vis x = true) : Vis X.env.scope x ∧ (x == ("__debug__" : Str)) = false ∧ (x == ("__classdict__" : Str)) = false := by
  unfold TC.vis at h
  simp only [Bool.and_eq_true, Bool.not_eq_true'] at h
  refine ⟨?_, h.1.2, h.2⟩
  rw [o.sc]
  have h1 := h.1.1
  unfold Vis
  split at h1 <;> simp_all
theorem XOk.loc (o : XOk X T cf) {x : Str} (h : T.loc x = true) : L2.Loc X.env.scope x ∧ (X.fn x = true ∨ X.env.scope.names.lookup x = some .local) := by
  unfold TC.loc at h
  rw [o.sc]
  unfold L2.Loc
  split at h
  · rename_i e; exact ⟨.inl e, .inr e⟩
  · rename_i e; exact ⟨.inr e, .inl (o.fn x h)⟩
  · cases h
theorem XOk.glo (o : XOk X T cf) {x : Str} (h : T.glo x = true) : Gl X x ∧ (x == ("__debug__" : Str)) = false := by
  unfold TC.glo at h
  simp only [Bool.and_eq_true, Bool.not_eq_true'] at h
  refine ⟨?_, h.2⟩
  unfold Gl Env.kindOf
  rw [o.sc]
  exact eq_of_beq h.1
end

/-! ### odds and ends of the trees -/
theorem trE_notStar {n : Nat} {T : TC} {e : Expr} {x : Ex} (h : trE n T e = some x) : ∀ a p, e ≠ .Starred a p := fun a p z => by
  subst z
  cases n <;> simp [trE] at h
theorem starEach_cons {e : Expr} {es : List Expr} {env : PySem.Env} (h : ∀ a p, e ≠ .Starred a p) : starEach (e :: es) env = (false, eval e env) :: starEach es env := by
  cases e <;> first
    | rfl
    | exact absurd rfl (h _ _)
theorem trE_notSlice {n : Nat} {T : TC} {e : Expr} {x : Ex} (h : trE n T e = some x) : ∀ a b c p, e ≠ .Slice a b c p := fun a b c p z => by
  subst z
  cases n <;> simp [trE] at h
theorem plainIx_of {e : Expr} (h : ∀ a b c p, e ≠ .Slice a b c p) : PlainIx e := by
  intro o i
  cases e <;> first
    | rfl
    | exact absurd rfl (h _ _ _ _)
theorem behind_of {op : CmpOp} {e : Expr} (h : isSet e = false) : behindInMarks op e = false := by
  cases e <;> first
    | rfl
    | cases h
theorem folded_of {e : Expr} {env : PySem.Env} (h : isSet e = false) : ∀ x, foldedSetIterable e env x = pure x := by
  intro x
  cases e <;> first
    | rfl
    | cases h
theorem trL_notStar {n : Nat} {T : TC} : ∀ {es : List Expr} {xs : Exs}, trL (trE n T) es = some xs → ∀ e ∈ es, ∀ a p, e ≠ .Starred a p
  | [], _, _ => fun e h => by cases h
  | e :: es, xs, h => by
    simp only [trL, Option.bind_eq_bind, Option.bind_eq_some_iff] at h
    obtain ⟨x, h1, ys, h2, _⟩ := h
    intro e' he
    rcases List.mem_cons.mp he with rfl | he
    · exact trE_notStar h1
    · exact trL_notStar h2 e' he
theorem star_any {pos : Pos} {env : PySem.Env} : ∀ {es : List Expr}, (∀ e ∈ es, ∀ a p, e ≠ .Starred a p) → (backTo pos (starEach es env)).any (·.1) = false
  | [], _ => rfl
  | e :: es, h => by
    rw [starEach_cons (h e (by simp))]
    have := star_any (pos := pos) (env := env) (es := es) fun e' he => h e' (by simp [he])
    unfold backTo at this ⊢
    rw [List.map_cons, List.any_cons, this]
    rfl
end RS

set_option Elab.async false
set_option linter.all false
set_option maxRecDepth 100000
set_option maxHeartbeats 4000000
namespace RS
open PySem PySem.Spec PyProof.Rows L2

/-! ### readings of the engine's texts are readings of the trees -/
section
variable {K : PySem.W.Frag} {cf : Nat → List Val → Sto → Out (Val × Sto)} {σ : L2.St} {H : Hp} {Q : VK} {x a b c : Ex}
theorem rdE_op2 {o : Op2} (ho : o ≠ .idx) (h : tE K cf (.op2 o a b) σ H Q) : tOp (rOp K (op2 o)) (tE K cf a) (tE K cf b) σ H Q := by
  obtain ⟨Z, m, ρ, S, v, S', sr, er, e, k⟩ := h
  simp only [evalE] at e
  obtain ⟨⟨v1, S1⟩, e1, e⟩ := bind_ok e
  obtain ⟨⟨v2, S2⟩, e2, e⟩ := bind_ok e
  obtain ⟨p, e3, e⟩ := bind_ok e
  obtain ⟨q, e4, e⟩ := bind_ok e
  obtain ⟨r, e5, e⟩ := bind_ok e
  cases e
  refine ⟨Z, m, ρ, S, v1, S1, sr, er, e1, fun m1 H1 u1 p1 => ?_⟩
  have n1 := p1.norm
  refine ⟨Z, m1, ρ, S1, v2, S2, n1.sr, er.stp n1.stp, e2, fun m2 H2 u2 p2 => ?_⟩
  have n2 := p2.norm
  refine ⟨Z ++ m2, p, q, r, n2.sr.tk, (n1.rv.stp n2.stp).read (v := v1) n2.sr e3, n2.rv.read (v := v2) n2.sr e4, ofO_ok e5, fun u H' nv => k m2 _ _ ?_⟩
  have hr : o.res r = fresh r := by cases o <;> first | rfl | exact absurd rfl ho
  rw [hr]
  exact Post.after (n1.stp.trans n2.stp) (nv.post n2.sr)
theorem rdE_idx (h : tE K cf (.op2 .idx a b) σ H Q) : tOp (rIxS' K) (tE K cf a) (tE K cf b) σ H Q := by
  obtain ⟨Z, m, ρ, S, v, S', sr, er, e, k⟩ := h
  simp only [evalE] at e
  obtain ⟨⟨v1, S1⟩, e1, e⟩ := bind_ok e
  obtain ⟨⟨v2, S2⟩, e2, e⟩ := bind_ok e
  obtain ⟨p, e3, e⟩ := bind_ok e
  obtain ⟨q, e4, e⟩ := bind_ok e
  obtain ⟨r, e5, e⟩ := bind_ok e
  cases e
  refine ⟨Z, m, ρ, S, v1, S1, sr, er, e1, fun m1 H1 u1 p1 => ?_⟩
  have n1 := p1.norm
  refine ⟨Z, m1, ρ, S1, v2, S2, n1.sr, er.stp n1.stp, e2, fun m2 H2 u2 p2 => ?_⟩
  have n2 := p2.norm
  refine ⟨Z ++ m2, p, q, r, n2.sr.tk, (n1.rv.stp n2.stp).read (v := v1) n2.sr e3, n2.rv.read (v := v2) n2.sr e4, ofO_ok e5, fun u r1 => k m2 _ _ ?_⟩
  exact Post.after (n1.stp.trans n2.stp) (Rv.post (v := .pv r) n2.sr r1)
theorem rdE_op1 {o : Op1} (h : tE K cf (.op1 o a) σ H Q) : tE K cf a σ H fun x H1 => ∃ z p r, Tk z H1 ∧ Rr K z H1 p x ∧ op1 o p = some r ∧ ∀ u H', NewV K z H1 r u H' → Q u H' := by
  obtain ⟨Z, m, ρ, S, v, S', sr, er, e, k⟩ := h
  simp only [evalE] at e
  obtain ⟨⟨v1, S1⟩, e1, e⟩ := bind_ok e
  obtain ⟨p, e3, e⟩ := bind_ok e
  obtain ⟨r, e5, e⟩ := bind_ok e
  cases e
  refine ⟨Z, m, ρ, S, v1, S1, sr, er, e1, fun m1 H1 u1 p1 => ?_⟩
  have n1 := p1.norm
  exact ⟨Z ++ m1, p, r, n1.sr.tk, n1.rv.read (v := v1) n1.sr e3, ofO_ok e5, fun u H' nv => k m1 _ _ (Post.after n1.stp (nv.post n1.sr))⟩
theorem truV_of {m : List Addr} {p : PV} {u : V} (r : Rr K m H p u) (t : trOk p = true) : TruV K u H (truthy p) := by
  cases p with
  | non => cases r.non; rfl
  | bl b => cases r.bl; rfl
  | int b => cases r.int; rfl
  | str b =>
    cases r.str
    have t' : b.cps.size ≤ line := by simpa [trOk] using t
    refine ⟨by rw [← line_eq]; exact t', ?_⟩
    show (b.cps.size != 0) = ((b.cps.size : Int) != 0)
    by_cases h : b.cps.size = 0
    · rw [h]; rfl
    · have h2 : (b.cps.size : Int) ≠ 0 := by omega
      rw [bne_iff_ne.mpr h, bne_iff_ne.mpr h2]
  | tup xs =>
    obtain ⟨a, us, rfl, s, q⟩ := r.tup
    refine .inr (.inl ⟨us, s, ?_⟩)
    have := q.length
    cases xs <;> cases us <;> simp_all [truthy]
  | lst xs =>
    obtain ⟨a, us, rfl, s, q⟩ := r.lst
    refine .inl ⟨us, SqL.of s, ?_⟩
    have := q.length
    cases xs <;> cases us <;> simp_all [truthy]
  | scr xs =>
    obtain ⟨a, rfl, s⟩ := r.scr
    refine .inl ⟨_, s, ?_⟩
    cases xs <;> simp [truthy]
theorem rdT_E {R : Bool → Hp → Prop} (h : tT K cf a σ H R) : tE K cf a σ H fun x H' => ∃ k, TruV K x H' k ∧ R k H' := by
  obtain ⟨Z, m, ρ, S, v, S', p, sr, er, e, e2, t, k⟩ := h
  refine ⟨Z, m, ρ, S, v, S', sr, er, e, fun m1 H1 u1 p1 => ?_⟩
  have n1 := p1.norm
  exact ⟨_, truV_of (n1.rv.read (v := v) n1.sr e2) t, k m1 H1 n1.stp n1.sr⟩
theorem rdT_and {R : Bool → Hp → Prop} (h : tT K cf (.and a b) σ H R) : tAnd (tT K cf a) (tT K cf b) σ H R := by
  obtain ⟨Z, m, ρ, S, v, S', p, sr, er, e, e2, t, k⟩ := h
  simp only [evalE] at e
  obtain ⟨⟨v1, S1⟩, e1, e⟩ := bind_ok e
  obtain ⟨q, e3, e⟩ := bind_ok e
  split at e
  · rename_i tq
    refine ⟨Z, m, ρ, S, v1, S1, q, sr, er, e1, e3, tq, fun m1 H1 s1 r1 => ?_⟩
    split at e
    · rename_i hq
      rw [if_pos hq]
      exact ⟨Z, m1, ρ, S1, v, S', p, r1, er.stp s1, e, e2, t, fun m2 H2 s2 r2 => k m2 H2 (s1.trans s2) r2⟩
    · rename_i hq
      rw [if_neg hq]
      cases e
      rw [norm_rd e3] at e2
      cases e2
      have := k m1 H1 s1 r1
      rwa [Bool.eq_false_iff.mpr hq] at this
  · cases e
theorem rdT_or {R : Bool → Hp → Prop} (h : tT K cf (.or a b) σ H R) : tOr (tT K cf a) (tT K cf b) σ H R := by
  obtain ⟨Z, m, ρ, S, v, S', p, sr, er, e, e2, t, k⟩ := h
  simp only [evalE] at e
  obtain ⟨⟨v1, S1⟩, e1, e⟩ := bind_ok e
  obtain ⟨q, e3, e⟩ := bind_ok e
  split at e
  · rename_i tq
    refine ⟨Z, m, ρ, S, v1, S1, q, sr, er, e1, e3, tq, fun m1 H1 s1 r1 => ?_⟩
    split at e
    · rename_i hq
      rw [if_pos hq]
      cases e
      rw [norm_rd e3] at e2
      cases e2
      have := k m1 H1 s1 r1
      rwa [hq] at this
    · rename_i hq
      rw [if_neg hq]
      exact ⟨Z, m1, ρ, S1, v, S', p, r1, er.stp s1, e, e2, t, fun m2 H2 s2 r2 => k m2 H2 (s1.trans s2) r2⟩
  · cases e
theorem rdE_and (h : tE K cf (.and a b) σ H Q) : tAndT K (tE K cf a) (tE K cf b) σ H Q := by
  obtain ⟨Z, m, ρ, S, v, S', sr, er, e, k⟩ := h
  simp only [evalE] at e
  obtain ⟨⟨v1, S1⟩, e1, e⟩ := bind_ok e
  obtain ⟨q, e3, e⟩ := bind_ok e
  split at e
  · rename_i tq
    refine ⟨Z, m, ρ, S, v1, S1, sr, er, e1, fun m1 H1 u1 p1 => ?_⟩
    have n1 := p1.norm
    refine ⟨_, truV_of (n1.rv.read (v := v1) n1.sr e3) tq, ?_⟩
    split at e
    · rename_i hq
      rw [if_pos hq]
      exact ⟨Z, m1, ρ, S1, v, S', n1.sr, er.stp n1.stp, e, fun m2 H2 u2 p2 => k m2 H2 u2 (Post.after n1.stp p2)⟩
    · rename_i hq
      rw [if_neg hq]
      cases e
      exact k _ _ _ (Post.after n1.stp (Rv.post n1.sr n1.rv))
  · cases e
theorem rdE_or (h : tE K cf (.or a b) σ H Q) : tOrT K (tE K cf a) (tE K cf b) σ H Q := by
  obtain ⟨Z, m, ρ, S, v, S', sr, er, e, k⟩ := h
  simp only [evalE] at e
  obtain ⟨⟨v1, S1⟩, e1, e⟩ := bind_ok e
  obtain ⟨q, e3, e⟩ := bind_ok e
  split at e
  · rename_i tq
    refine ⟨Z, m, ρ, S, v1, S1, sr, er, e1, fun m1 H1 u1 p1 => ?_⟩
    have n1 := p1.norm
    refine ⟨_, truV_of (n1.rv.read (v := v1) n1.sr e3) tq, ?_⟩
    split at e
    · rename_i hq
      rw [if_pos hq]
      cases e
      exact k _ _ _ (Post.after n1.stp (Rv.post n1.sr n1.rv))
    · rename_i hq
      rw [if_neg hq]
      exact ⟨Z, m1, ρ, S1, v, S', n1.sr, er.stp n1.stp, e, fun m2 H2 u2 p2 => k m2 H2 u2 (Post.after n1.stp p2)⟩
  · cases e
theorem rdE_ite (h : tE K cf (.ite c a b) σ H Q) : tIf (tT K cf c) (tE K cf a) (tE K cf b) σ H Q := by
  obtain ⟨Z, m, ρ, S, v, S', sr, er, e, k⟩ := h
  simp only [evalE] at e
  obtain ⟨⟨v1, S1⟩, e1, e⟩ := bind_ok e
  obtain ⟨q, e3, e⟩ := bind_ok e
  split at e
  · rename_i tq
    refine ⟨Z, m, ρ, S, v1, S1, q, sr, er, e1, e3, tq, fun m1 H1 s1 r1 => ?_⟩
    split at e
    · rename_i hq
      rw [if_pos hq]
      exact ⟨Z, m1, ρ, S1, v, S', r1, er.stp s1, e, fun m2 H2 u2 p2 => k m2 H2 u2 (Post.after s1 p2)⟩
    · rename_i hq
      rw [if_neg hq]
      exact ⟨Z, m1, ρ, S1, v, S', r1, er.stp s1, e, fun m2 H2 u2 p2 => k m2 H2 u2 (Post.after s1 p2)⟩
  · cases e
theorem rdT_ite {R : Bool → Hp → Prop} (h : tT K cf (.ite c a b) σ H R) : tT K cf c σ H fun d H1 => if d = true then tT K cf a σ H1 R else tT K cf b σ H1 R := by
  obtain ⟨Z, m, ρ, S, v, S', p, sr, er, e, e2, t, k⟩ := h
  simp only [evalE] at e
  obtain ⟨⟨v1, S1⟩, e1, e⟩ := bind_ok e
  obtain ⟨q, e3, e⟩ := bind_ok e
  split at e
  · rename_i tq
    refine ⟨Z, m, ρ, S, v1, S1, q, sr, er, e1, e3, tq, fun m1 H1 s1 r1 => ?_⟩
    split at e
    · rename_i hq
      rw [if_pos hq]
      exact ⟨Z, m1, ρ, S1, v, S', p, r1, er.stp s1, e, e2, t, fun m2 H2 s2 r2 => k m2 H2 (s1.trans s2) r2⟩
    · rename_i hq
      rw [if_neg hq]
      exact ⟨Z, m1, ρ, S1, v, S', p, r1, er.stp s1, e, e2, t, fun m2 H2 s2 r2 => k m2 H2 (s1.trans s2) r2⟩
  · cases e
theorem rdT_not {R : Bool → Hp → Prop} (h : tT K cf (.op1 .not a) σ H R) : tNot (tT K cf a) σ H R := by
  obtain ⟨Z, m, ρ, S, v, S', p, sr, er, e, e2, t, k⟩ := h
  simp only [evalE] at e
  obtain ⟨⟨v1, S1⟩, e1, e⟩ := bind_ok e
  obtain ⟨q, e3, e⟩ := bind_ok e
  obtain ⟨r, e5, e⟩ := bind_ok e
  cases e
  have e5 := ofO_ok e5
  simp only [op1] at e5
  split at e5
  · rename_i tq
    cases e5
    cases e2
    exact ⟨Z, m, ρ, S, v1, S1, q, sr, er, e1, e3, tq, fun m1 H1 s1 r1 => k m1 H1 s1 r1⟩
  · cases e5
theorem rdE_tup {es : Exs} (h : tE K cf (.tup es) σ H Q) : tTup (tA K cf es) σ H Q := by
  obtain ⟨Z, m, ρ, S, v, S', sr, er, e, k⟩ := h
  simp only [evalE] at e
  obtain ⟨⟨vs, S1⟩, e1, e⟩ := bind_ok e
  obtain ⟨ps, e3, e⟩ := bind_ok e
  split at e
  · rename_i hl
    cases e
    refine ⟨Z, m, ρ, S, vs, S1, sr, er, e1, fun m1 H1 us s1 r1 rv => ?_⟩
    have rp := rv.items e3
    refine ⟨by rw [rp.length, ← line_eq]; exact hl, fun p hp => k m1 _ _ ?_⟩
    exact Post.after s1 ((NewV.tup r1.tk hp rp).post r1)
  · cases e
theorem rdE_lst {es : Exs} (h : tE K cf (.lst es) σ H Q) : tLst (tA K cf es) σ H Q := by
  obtain ⟨Z, m, ρ, S, v, S', sr, er, e, k⟩ := h
  simp only [evalE] at e
  obtain ⟨⟨vs, S1⟩, e1, e⟩ := bind_ok e
  obtain ⟨ps, e3, e⟩ := bind_ok e
  split at e
  · rename_i hl
    cases e
    refine ⟨Z, m, ρ, S, vs, S1, sr, er, e1, fun m1 H1 us s1 r1 rv => ?_⟩
    have rp := rv.items e3
    refine ⟨by rw [rp.length, ← line_eq]; exact hl, fun p hp => k m1 _ _ ?_⟩
    exact Post.after s1 (NewV.post (r := .lst ps) r1 ⟨p, us, rfl, hp, rfl, rp⟩)
  · cases e
theorem rdA_nil {R : List V → Hp → Prop} (h : tA K cf .nil σ H R) : tNil σ H R := by
  obtain ⟨Z, m, ρ, S, vs, S', sr, er, e, k⟩ := h
  simp only [evalEs] at e
  cases e
  exact k m H [] (Stp.refl _ _) sr (by simp only [Rvs])
theorem rdA_cons {e' : Ex} {r' : Exs} {R : List V → Hp → Prop} (h : tA K cf (.cons e' r') σ H R) : tCons (tE K cf e') (tA K cf r') σ H R := by
  obtain ⟨Z, m, ρ, S, vs, S', sr, er, e, k⟩ := h
  simp only [evalEs] at e
  obtain ⟨⟨v1, S1⟩, e1, e⟩ := bind_ok e
  obtain ⟨⟨v2, S2⟩, e2, e⟩ := bind_ok e
  cases e
  refine ⟨Z, m, ρ, S, v1, S1, sr, er, e1, fun m1 H1 u1 p1 => ?_⟩
  have n1 := p1.norm
  refine ⟨Z, m1, ρ, S1, v2, S2, n1.sr, er.stp n1.stp, e2, fun m2 H2 us s2 r2 rv => ?_⟩
  refine k m2 H2 _ (n1.stp.trans s2) r2 ?_
  simp only [Rvs]
  exact ⟨u1, us, rfl, n1.rv.stp s2, rv⟩
theorem rdE_chain {o o' : Op2} (h1 : o ≠ .idx) (h2 : o' ≠ .idx) (h : tE K cf (.chain o o' a b c) σ H Q) : tChain (rOp K (op2 o)) (rOp K (op2 o')) (tE K cf a) (tE K cf b) (tE K cf c) σ H Q := by
  obtain ⟨Z, m, ρ, S, v, S', sr, er, e, k⟩ := h
  simp only [evalE] at e
  obtain ⟨⟨v1, S1⟩, e1, e⟩ := bind_ok e
  obtain ⟨⟨v2, S2⟩, e2, e⟩ := bind_ok e
  obtain ⟨p, e3, e⟩ := bind_ok e
  obtain ⟨q, e4, e⟩ := bind_ok e
  obtain ⟨r, e5, e⟩ := bind_ok e
  refine ⟨Z, m, ρ, S, v1, S1, sr, er, e1, fun m1 H1 u1 p1 => ?_⟩
  have n1 := p1.norm
  refine ⟨Z, m1, ρ, S1, v2, S2, n1.sr, er.stp n1.stp, e2, fun m2 H2 u2 p2 => ?_⟩
  have n2 := p2.norm
  refine ⟨Z ++ m2, p, q, r, n2.sr.tk, (n1.rv.stp n2.stp).read (v := v1) n2.sr e3, n2.rv.read (v := v2) n2.sr e4, ofO_ok e5, fun u H3 nv => ?_⟩
  have st := n1.stp.trans n2.stp
  have p3 := nv.post n2.sr
  dsimp only at e
  split at e
  · obtain ⟨⟨v3, S3⟩, e6, e⟩ := bind_ok e
    obtain ⟨q', e7, e⟩ := bind_ok e
    obtain ⟨t, e8, e⟩ := bind_ok e
    obtain ⟨r', e9, e⟩ := bind_ok e
    cases e
    obtain ⟨s3, r3, rv3⟩ := (show Stp m2 H2 m2 H3 ∧ SR K Z m2 S2 H3 ∧ Rv K Z m2 H3 (.pv (.bl true)) u from p3)
    have hu : u = .bl true := by simpa only [Rv, Rp] using rv3
    refine ⟨true, hu, ?_⟩
    rw [if_pos rfl]
    refine ⟨Z, m2, ρ, S2, v3, S3, r3, (er.stp st).stp s3, e6, fun m4 H4 u4 p4 => ?_⟩
    have n4 := p4.norm
    refine ⟨Z ++ m4, q', t, r', n4.sr.tk, ((n2.rv.stp s3).stp n4.stp).read (v := v2) n4.sr e7, n4.rv.read (v := v3) n4.sr e8, ofO_ok e9, fun u' H' nv' => k m4 _ _ ?_⟩
    have hr : o'.res r' = fresh r' := by cases o' <;> first | rfl | exact absurd rfl h2
    rw [hr]
    exact Post.after ((st.trans s3).trans n4.stp) (nv'.post n4.sr)
  · cases e
    obtain ⟨s3, r3, rv3⟩ := (show Stp m2 H2 m2 H3 ∧ SR K Z m2 _ H3 ∧ Rv K Z m2 H3 (.pv (.bl false)) u from p3)
    have hu : u = .bl false := by simpa only [Rv, Rp] using rv3
    refine ⟨false, hu, ?_⟩
    rw [if_neg Bool.false_ne_true]
    exact k m2 _ _ (Post.after st ⟨s3, r3, by simp only [Rv, Rp]⟩)
  · cases e
/-- the value of an operation that gives a bool, as a test -/
theorem tT_tE {R : Bool → Hp → Prop} (hb : ∀ ρ S v S', evalE cf x ρ S = .ok (v, S') → ∃ k, v = .pv (.bl k)) (h : tT K cf x σ H R) : tE K cf x σ H fun y H' => ∃ k, y = .bl k ∧ R k H' := by
  obtain ⟨Z, m, ρ, S, v, S', p, sr, er, e, e2, t, k⟩ := h
  refine ⟨Z, m, ρ, S, v, S', sr, er, e, fun m1 H1 u1 p1 => ?_⟩
  obtain ⟨b, rfl⟩ := hb ρ S v S' e
  cases e2
  obtain ⟨s1, r1, rv⟩ := (show Stp m H m1 H1 ∧ SR K Z m1 S' H1 ∧ Rv K Z m1 H1 (.pv (.bl b)) u1 from p1)
  exact ⟨b, by simpa only [Rv, Rp] using rv, k m1 H1 s1 r1⟩
def Op2.isCmp : Op2 → Bool
  | .eq => true
  | .ne => true
  | .lt => true
  | .le => true
  | .gt => true
  | .ge => true
  | .isIn => true
  | .notIn => true
  | _ => false
theorem cmp_bl {o : Op2} (ho : o.isCmp = true) {p q r : PV} (e : op2 o p q = some r) : ∃ k, r = .bl k := by
  cases o <;> cases ho <;> (try simp only [op2, Option.map_eq_some_iff] at e)
  · obtain ⟨b, _, rfl⟩ := e; exact ⟨_, rfl⟩
  · obtain ⟨b, _, rfl⟩ := e; exact ⟨_, rfl⟩
  · rcases cmpI_inv e with ⟨i, j, rfl, rfl, rfl⟩ | ⟨xs, ys, a, b, rfl, rfl, ea, eb, rfl⟩ <;> exact ⟨_, rfl⟩
  · rcases cmpI_inv e with ⟨i, j, rfl, rfl, rfl⟩ | ⟨xs, ys, a, b, rfl, rfl, ea, eb, rfl⟩ <;> exact ⟨_, rfl⟩
  · cases p <;> cases q <;> simp only [op2] at e <;> cases e <;> exact ⟨_, rfl⟩
  · cases p <;> cases q <;> simp only [op2] at e <;> cases e <;> exact ⟨_, rfl⟩
  · obtain ⟨b, _, rfl⟩ := e; exact ⟨_, rfl⟩
  · obtain ⟨b, _, rfl⟩ := e; exact ⟨_, rfl⟩
theorem cmp_val {o : Op2} (ho : o.isCmp = true) (ρ : Env) (S : Sto) (v : Val) (S' : Sto) (e : evalE cf (.op2 o a b) ρ S = .ok (v, S')) : ∃ k, v = .pv (.bl k) := by
  simp only [evalE] at e
  obtain ⟨⟨v1, S1⟩, e1, e⟩ := bind_ok e
  obtain ⟨⟨v2, S2⟩, e2, e⟩ := bind_ok e
  obtain ⟨p, e3, e⟩ := bind_ok e
  obtain ⟨q, e4, e⟩ := bind_ok e
  obtain ⟨r, e5, e⟩ := bind_ok e
  cases e
  obtain ⟨k, rfl⟩ := cmp_bl ho (ofO_ok e5)
  refine ⟨k, ?_⟩
  cases o <;> rfl
theorem chain_val {o o' : Op2} (ho : o'.isCmp = true) (ρ : Env) (S : Sto) (v : Val) (S' : Sto) (e : evalE cf (.chain o o' a b c) ρ S = .ok (v, S')) : ∃ k, v = .pv (.bl k) := by
  simp only [evalE] at e
  obtain ⟨⟨v1, S1⟩, e1, e⟩ := bind_ok e
  obtain ⟨⟨v2, S2⟩, e2, e⟩ := bind_ok e
  obtain ⟨p, e3, e⟩ := bind_ok e
  obtain ⟨q, e4, e⟩ := bind_ok e
  obtain ⟨r, e5, e⟩ := bind_ok e
  dsimp only at e
  split at e
  · obtain ⟨⟨v3, S3⟩, e6, e⟩ := bind_ok e
    obtain ⟨q', e7, e⟩ := bind_ok e
    obtain ⟨t, e8, e⟩ := bind_ok e
    obtain ⟨r', e9, e⟩ := bind_ok e
    cases e
    obtain ⟨k, rfl⟩ := cmp_bl ho (ofO_ok e9)
    refine ⟨k, ?_⟩
    cases o' <;> rfl
  · cases e; exact ⟨_, rfl⟩
  · cases e
theorem copOf_cmp {op : CmpOp} {o : Op2} (h : copOf op = some o) : o.isCmp = true := by
  cases op <;> cases h <;> rfl
theorem cmp_ne {o : Op2} (h : o.isCmp = true) : o ≠ .idx := by
  intro e; subst e; cases h
theorem isNon_val (ρ : Env) (S : Sto) (v : Val) (S' : Sto) {o : Op1} (ho : o = .isNon ∨ o = .notNon) (e : evalE cf (.op1 o a) ρ S = .ok (v, S')) : ∃ k, v = .pv (.bl k) := by
  simp only [evalE] at e
  obtain ⟨⟨v1, S1⟩, e1, e⟩ := bind_ok e
  obtain ⟨p, e3, e⟩ := bind_ok e
  obtain ⟨r, e5, e⟩ := bind_ok e
  cases e
  rcases ho with rfl | rfl <;> (have e5 := ofO_ok e5; simp only [op1] at e5; cases e5; exact ⟨_, rfl⟩)
theorem isNon_of {m : List Addr} {p : PV} {u : V} (r : Rr K m H p u) : decide (u = .non) = isN p := by
  cases p with
  | non => cases r.non; rfl
  | bl b => cases r.bl; rfl
  | int b => cases r.int; rfl
  | str b => cases r.str; rfl
  | tup xs => obtain ⟨a, us, rfl, _⟩ := r.tup; rfl
  | lst xs => obtain ⟨a, us, rfl, _⟩ := r.lst; rfl
  | scr xs => obtain ⟨a, rfl, _⟩ := r.scr; rfl
variable (K cf) in
def tO (xs : Exs) : TO := fun σ H R => ∃ Z m ρ S o S', SR K Z m S H ∧ ER K Z m H ρ σ ∧ evalO cf xs ρ S = .ok (o, S') ∧ ∀ m' H', Stp m H m' H' → SR K Z m' S' H' → R o H'
theorem rdO_nil {R : Option Int → Hp → Prop} (h : tO K cf .nil σ H R) : tNoPart σ H R := by
  obtain ⟨Z, m, ρ, S, o, S', sr, er, e, k⟩ := h
  simp only [evalO] at e
  cases e
  exact k m H (Stp.refl _ _) sr
theorem rdO_cons {e' : Ex} {r' : Exs} {R : Option Int → Hp → Prop} (h : tO K cf (.cons e' r') σ H R) : tPart (tE K cf e') σ H R := by
  obtain ⟨Z, m, ρ, S, o, S', sr, er, e, k⟩ := h
  simp only [evalO] at e
  obtain ⟨⟨v1, S1⟩, e1, e⟩ := bind_ok e
  dsimp only at e
  split at e
  · cases e
    refine ⟨Z, m, ρ, S, _, S', sr, er, e1, fun m1 H1 u1 p1 => ?_⟩
    have n1 := p1.norm
    refine ⟨_, ?_, k m1 H1 n1.stp n1.sr⟩
    have := n1.rv
    simpa only [norm, Rv, Rp] using this
  · cases e
theorem rdE_slc {lo hi : Exs} (h : tE K cf (.slc a lo hi) σ H Q) : tSl (rSlS K) (tE K cf a) (tO K cf lo) (tO K cf hi) σ H Q := by
  obtain ⟨Z, m, ρ, S, v, S', sr, er, e, k⟩ := h
  simp only [evalE] at e
  obtain ⟨⟨v1, S1⟩, e1, e⟩ := bind_ok e
  obtain ⟨⟨l, S2⟩, e2, e⟩ := bind_ok e
  obtain ⟨⟨hh, S3⟩, e3, e⟩ := bind_ok e
  obtain ⟨p, e4, e⟩ := bind_ok e
  obtain ⟨r, e5, e⟩ := bind_ok e
  cases e
  refine ⟨Z, m, ρ, S, v1, S1, sr, er, e1, fun m1 H1 u1 p1 => ?_⟩
  have n1 := p1.norm
  refine ⟨Z, m1, ρ, S1, l, S2, n1.sr, er.stp n1.stp, e2, fun m2 H2 s2 r2 => ?_⟩
  refine ⟨Z, m2, ρ, S2, hh, S3, r2, (er.stp n1.stp).stp s2, e3, fun m3 H3 s3 r3 => ?_⟩
  have rv := (n1.rv.stp s2).stp s3
  refine ⟨Z ++ m3, p, r, r3.tk, rv.read (v := v1) r3 e4, ofO_ok e5, fun u H' nv => k m3 _ _ ?_⟩
  exact Post.after ((n1.stp.trans s2).trans s3) (nv.post r3)
/-! ### stores that change -/
theorem nodup_at {α : Type} : ∀ {l : List α} {i j : Nat} {x : α}, l.Nodup → l[i]? = some x → l[j]? = some x → i = j
  | [], i, _, _, _, h, _ => by simp at h
  | y :: r, 0, 0, _, _, _, _ => rfl
  | y :: r, 0, j + 1, x, n, h, h' => by
    simp at h h'
    subst h
    exact absurd (List.mem_of_getElem? h') (List.nodup_cons.mp n).1
  | y :: r, i + 1, 0, x, n, h, h' => by
    simp at h h'
    subst h'
    exact absurd (List.mem_of_getElem? h) (List.nodup_cons.mp n).1
  | y :: r, i + 1, j + 1, x, n, h, h' => by
    have := nodup_at (i := i) (j := j) (x := x) (List.nodup_cons.mp n).2 (by simpa using h) (by simpa using h')
    omega
theorem hide_upd_in {m : List Addr} {H : Hp} {a : Addr} {o : HO} (h : a ∈ m) : hide m (upd H a o) = hide m H := by
  funext b
  unfold hide
  by_cases e : b ∈ m
  · rw [if_pos e, if_pos e]
  · rw [if_neg e, if_neg e, upd_ne (show b ≠ a from fun z => e (by rw [z]; exact h))]
theorem Stp.upd {m : List Addr} {H : Hp} {a : Addr} {o : HO} (h : a ∈ m) : Stp m H m (upd H a o) :=
  ⟨⟨[], by simp⟩, fun _ h n => absurd h n, fun b u e n => by rw [upd_ne (show b ≠ a from fun z => n (by rw [z]; exact h))]; exact e⟩
theorem SR.upd {Z m : List Addr} {S : Sto} {H : Hp} {l : Nat} {a : Addr} {xs : List PV} {us : List V} (s : SR K Z m S H) (h : m[l]? = some a) (r : Rps K (hide (Z ++ m) H) xs us) : SR K Z m (S.set l (.lst xs)) (L2.upd H a (.lst us)) := by
  have ha : a ∈ m := List.mem_of_getElem? h
  refine ⟨by rw [List.length_set]; exact s.len, s.nd, s.dis, fun b hb => ?_, fun i ys e => ?_⟩
  · rw [upd_ne (show b ≠ a from fun z => s.dis b hb (by rw [z]; exact ha))]
    exact s.trk b hb
  rw [hide_upd_in (List.mem_append_right _ ha)]
  by_cases hi : l = i
  · subst hi
    have hl : l < S.length := by
      rw [← s.len]
      exact (List.getElem?_eq_some_iff.mp h).1
    rw [List.getElem?_set_self hl] at e
    cases e
    exact ⟨a, us, h, upd_same, r⟩
  · rw [List.getElem?_set_ne hi] at e
    obtain ⟨b, vs, h1, h2, h3⟩ := s.sto i ys e
    refine ⟨b, vs, h1, ?_, h3⟩
    rw [upd_ne]
    · exact h2
    · intro z
      subst z
      exact hi (nodup_at s.nd h h1)
/-- a new list taken into the store -/
theorem Post.box {Z m m' : List Addr} {S' : Sto} {c' : Cell} {u : V} {H' : Hp} (h : Post K Z m H (.new c') S' u m' H') : ∃ m2, Post K Z m H (.loc S'.length) (S' ++ [c']) u m2 H' := by
  cases c' with
  | lst xs =>
    obtain ⟨p, us, rfl, n, nz, hH, hp, st, sr, r⟩ := h
    have hh : hide (Z ++ (m' ++ [p])) H' = hide (p :: Z ++ m') H' := hide_perm fun b => by
      simp only [List.mem_append, List.mem_cons, List.not_mem_nil, or_false, List.cons_append]
      constructor
      · rintro (h | h | h)
        · exact .inr (.inl h)
        · exact .inr (.inr h)
        · exact .inl h
      · rintro (h | h | h)
        · exact .inr (.inr h)
        · exact .inl h
        · exact .inr (.inl h)
    refine ⟨m' ++ [p], ⟨?_, fun a ha hn => ?_, fun a o e hn => st.ext a o e hn⟩, ⟨?_, ?_, fun a ha hm => ?_, sr.wk.trk, fun l ys e => ?_⟩, ?_⟩
    · obtain ⟨q, rfl⟩ := st.pre
      exact ⟨q ++ [p], by simp⟩
    · rcases List.mem_append.mp ha with ha | ha
      · exact st.new a ha hn
      · have : a = p := by simpa using ha
        subst this
        exact hH
    · simp [sr.len]
    · refine List.nodup_append.mpr ⟨sr.nd, by simp, fun a ha b hb z => ?_⟩
      have : b = p := by simpa using hb
      subst this
      subst z
      exact n ha
    · rcases List.mem_append.mp hm with hm | hm
      · exact sr.wk.dis a ha hm
      · have : a = p := by simpa using hm
        subst this
        exact nz ha
    · rw [hh]
      by_cases hl : l < S'.length
      · rw [List.getElem?_append_left hl] at e
        obtain ⟨a, vs, h1, h2, h3⟩ := sr.sto l ys e
        have hl' : l < m'.length := by rw [sr.len]; exact hl
        exact ⟨a, vs, by rw [List.getElem?_append_left hl']; exact h1, h2, h3⟩
      · have hl2 : l = S'.length := by
          have := (List.getElem?_eq_some_iff.mp e).1
          simp at this
          omega
        subst hl2
        rw [List.getElem?_append_right (Nat.le_refl _), Nat.sub_self] at e
        cases e
        refine ⟨p, us, ?_, hp, r⟩
        rw [← sr.len, List.getElem?_append_right (Nat.le_refl _), Nat.sub_self]
        rfl
    · refine ⟨p, ?_, rfl⟩
      rw [← sr.len, List.getElem?_append_right (Nat.le_refl _), Nat.sub_self]
      rfl
theorem rdE_box (h : tE K cf (.box a) σ H Q) : tE K cf a σ H Q := by
  obtain ⟨Z, m, ρ, S, v, S', sr, er, e, k⟩ := h
  simp only [evalE] at e
  obtain ⟨⟨v1, S1⟩, e1, e⟩ := bind_ok e
  dsimp only at e
  split at e
  · cases e
    refine ⟨Z, m, ρ, S, _, S1, sr, er, e1, fun m1 H1 u1 p1 => ?_⟩
    obtain ⟨m2, p2⟩ := p1.box
    exact k m2 _ _ p2
  · cases e
    exact ⟨Z, m, ρ, S, _, _, sr, er, e1, k⟩
  · cases e
/-- a call of a def, and what it hands on -/
theorem rdE_call {f : Nat} {es : Exs} {n : Nat} (hn : ∀ vs S r, cf f vs S = .ok r → vs.length = n) (h : tE K cf (.call f es) σ H Q) : tCall (spF K (cf f) n) [] E0 (tA K cf es) σ H Q := by
  obtain ⟨Z, m, ρ, S, v, S', sr, er, e, k⟩ := h
  simp only [evalE] at e
  obtain ⟨⟨vs, S1⟩, e1, e⟩ := bind_ok e
  refine ⟨Z, m, ρ, S, vs, S1, sr, er, e1, fun m1 H1 us s1 r1 rv => ?_⟩
  show spF K (cf f) n (us ++ []) H1 Q E0
  rw [List.append_nil]
  refine ⟨by rw [rv.length]; exact hn _ _ _ e, Z, m1, S1, vs, v, S', r1, rv, e, fun m2 H2 u p => k m2 H2 u (Post.after s1 p)⟩
end
end RS

set_option Elab.async false
set_option linter.all false
set_option maxRecDepth 100000
set_option maxHeartbeats 4000000
namespace RS
open PySem PySem.Spec PyProof.Rows L2

section
variable {K : PySem.W.Frag} {cf : Nat → List Val → Sto → Out (Val × Sto)} {σ : L2.St} {H : Hp} {Q : VK} {x a b c : Ex}
theorem loc_at {Z m : List Addr} {S : Sto} {l : Nat} {u : V} {xs : List PV} (sr : SR K Z m S H) (rv : Rv K Z m H (.loc l) u) (e : S[l]? = some (.lst xs)) :
    ∃ p us, u = .ref p ∧ m[l]? = some p ∧ p ∈ m ∧ H p = some (.lst us) ∧ Rps K (hide (Z ++ m) H) xs us := by
  obtain ⟨p, h1, rfl⟩ := rv
  obtain ⟨q, us, g1, g2, g3⟩ := sr.sto l xs e
  rw [h1] at g1
  cases g1
  exact ⟨p, us, rfl, h1, List.mem_of_getElem? h1, g2, g3⟩
theorem post_upd {Z m m1 : List Addr} {H1 : Hp} {S : Sto} {l : Nat} {p : Addr} {xs : List PV} {us : List V} {v : PV} {u : V} (st : Stp m H m1 H1) (sr : SR K Z m1 S H1) (h : m1[l]? = some p) (hm : p ∈ m1) (r : Rps K (hide (Z ++ m1) H1) xs us) (rv : Rp K (hide (Z ++ m1) H1) v u) :
    Post K Z m H (.pv v) (S.set l (.lst xs)) u m1 (upd H1 p (.lst us)) := by
  refine ⟨st.trans (Stp.upd hm), sr.upd h r, ?_⟩
  show Rp K (hide (Z ++ m1) (upd H1 p (.lst us))) v u
  rw [hide_upd_in (List.mem_append_right _ hm)]
  exact rv
theorem mut_loc {S : Sto} {k : Mt} {v : Val} {ps : List PV} {r : Val × Sto} (e : mutOp S k v ps = .ok r) : ∃ l xs, v = .loc l ∧ S[l]? = some (.lst xs) := by
  unfold mutOp at e
  split at e <;> first
    | (split at e
       · exact ⟨_, _, rfl, ‹_›⟩
       · cases e)
    | cases e
theorem tyL {K : PySem.W.Frag} {H : Hp} {p : Addr} {us : List V} (h : H p = some (.lst us)) : tyV K "list" (.ref p) H := .inl ⟨rfl, _, .inl (.inl h)⟩
theorem rdE_mut0 {k : Mt} {id : String} {r : V → List V → Hp → VK → Prop} (h : tE K cf (.mut k a .nil) σ H Q)
    (go : ∀ {Z m m1 : List Addr} {H1 : Hp} {S : Sto} {l : Nat} {xs : List PV} {p : Addr} {us : List V} {v : Val} {S' : Sto}, Stp m H m1 H1 → SR K Z m1 S H1 → m1[l]? = some p → p ∈ m1 → H1 p = some (.lst us) → Rps K (hide (Z ++ m1) H1) xs us → S[l]? = some (.lst xs) → mutOp S k (.loc l) [] = .ok (v, S') → (∀ m' H' u, Post K Z m H v S' u m' H' → Q u H') → r (.ref p) [] H1 Q) :
    tBM0 K "list" r (tE K cf a) σ H Q := by
  obtain ⟨Z, m, ρ, S, v, S', sr, er, e, q⟩ := h
  simp only [evalE, evalEs] at e
  obtain ⟨⟨v1, S1⟩, e1, e⟩ := bind_ok e
  simp only [ok_bind, items] at e
  obtain ⟨l, xs, rfl, e2⟩ := mut_loc e
  refine ⟨Z, m, ρ, S, _, S1, sr, er, e1, fun m1 H1 u1 p1 => ?_⟩
  have n1 := p1.norm
  obtain ⟨p, us, rfl, h1, h2, h3, h4⟩ := loc_at n1.sr n1.rv e2
  exact ⟨tyL h3, go n1.stp n1.sr h1 h2 h3 h4 e2 e q⟩
theorem rdE_mut1 {k : Mt} {id : String} {es : Exs} {r : V → List V → Hp → VK → Prop} (h : tE K cf (.mut k a es) σ H Q)
    (go : ∀ {Z m m1 : List Addr} {H1 : Hp} {S : Sto} {l : Nat} {xs : List PV} {p : Addr} {us : List V} {v : Val} {S' : Sto} {ps : List PV} {ws : List V}, Stp m H m1 H1 → SR K Z m1 S H1 → m1[l]? = some p → p ∈ m1 → H1 p = some (.lst us) → Rps K (hide (Z ++ m1) H1) xs us → S[l]? = some (.lst xs) → mutOp S k (.loc l) ps = .ok (v, S') → Rps K (hide (Z ++ m1) H1) ps ws → (∀ m' H' u, Post K Z m H v S' u m' H' → Q u H') → r (.ref p) ws H1 Q) :
    tBM K "list" r (tE K cf a) (tA K cf es) σ H Q := by
  obtain ⟨Z, m, ρ, S, v, S', sr, er, e, q⟩ := h
  simp only [evalE] at e
  obtain ⟨⟨v1, S1⟩, e1, e⟩ := bind_ok e
  obtain ⟨⟨vs, S2⟩, e3, e⟩ := bind_ok e
  obtain ⟨ps, e4, e⟩ := bind_ok e
  obtain ⟨l, xs, rfl, e2⟩ := mut_loc e
  refine ⟨Z, m, ρ, S, _, S1, sr, er, e1, fun m1 H1 u1 p1 => ?_⟩
  have n1 := p1.norm
  obtain ⟨p, hp, rfl⟩ : ∃ p, m1[l]? = some p ∧ u1 = .ref p := n1.rv
  refine ⟨?_, Z, m1, ρ, S1, vs, S2, n1.sr, er.stp n1.stp, e3, fun m2 H2 ws s2 r2 rv => ?_⟩
  · obtain ⟨us, hus⟩ := n1.sr.at (List.mem_of_getElem? hp)
    exact tyL hus
  · have rv2 : Rv K Z m2 H2 (.loc l) (.ref p) := (show Rv K Z m1 H1 (.loc l) (.ref p) from ⟨p, hp, rfl⟩).stp s2
    obtain ⟨p', us, ep, h1, h2, h3, h4⟩ := loc_at r2 rv2 e2
    cases ep
    exact go (n1.stp.trans s2) r2 h1 h2 h3 h4 e2 e (rv.items e4) q
theorem rdE_pop (h : tE K cf (.mut .pop a .nil) σ H Q) : tBM0 K "list" rPop (tE K cf a) σ H Q := by
  refine rdE_mut0 (id := "") h fun st sr h1 h2 h3 h4 e2 e k => ?_
  simp only [mutOp, e2] at e
  split at e
  · rename_i y hy
    cases e
    obtain ⟨w, hw, rw'⟩ := h4.get hy
    refine ⟨_, _, w, rfl, rfl, h3, by rw [h4.length]; exact hw, k _ _ _ (post_upd st sr h1 h2 h4.dropLast rw')⟩
  · cases e
theorem rdE_reverse (h : tE K cf (.mut .reverse a .nil) σ H Q) : tBM0 K "list" rReverse (tE K cf a) σ H Q := by
  refine rdE_mut0 (id := "") h fun st sr h1 h2 h3 h4 e2 e k => ?_
  simp only [mutOp, e2] at e
  cases e
  exact ⟨_, _, rfl, rfl, h3, k _ _ _ (post_upd st sr h1 h2 h4.reverse (by simp only [Rp]))⟩
theorem rps_one {H : Hp} {p : PV} {ws : List V} (h : Rps K H [p] ws) : ∃ w, ws = [w] ∧ Rp K H p w := by
  simp only [Rps] at h
  obtain ⟨u, r, rfl, h1, rfl⟩ := h
  exact ⟨u, rfl, h1⟩
theorem rdE_append {es : Exs} (h : tE K cf (.mut .append a es) σ H Q) : tBM K "list" rAppend (tE K cf a) (tA K cf es) σ H Q := by
  refine rdE_mut1 (id := "") h fun {Z m m1 H1 S l xs p us v S' ps ws} st sr h1 h2 h3 h4 e2 e r k => ?_
  cases ps with
  | nil => simp [mutOp] at e
  | cons q t =>
    cases t with
    | cons _ _ => simp [mutOp] at e
    | nil =>
      simp only [mutOp, e2] at e
      split at e
      · rename_i hl
        cases e
        obtain ⟨w, rfl, rw'⟩ := rps_one r
        exact ⟨_, _, w, rfl, rfl, h3, by rw [h4.length, ← line_eq]; exact hl, k _ _ _ (post_upd st sr h1 h2 (h4.append (Rps.cons rw' Rps.nil)) (by simp only [Rp]))⟩
      · cases e
theorem rdE_popAt {es : Exs} (h : tE K cf (.mut .popAt a es) σ H Q) : tBM K "list" rPopAt (tE K cf a) (tA K cf es) σ H Q := by
  refine rdE_mut1 (id := "") h fun {Z m m1 H1 S l xs p us v S' ps ws} st sr h1 h2 h3 h4 e2 e r k => ?_
  cases ps with
  | nil => simp [mutOp] at e
  | cons q t =>
    cases t with
    | cons _ _ => cases q <;> simp [mutOp] at e
    | nil =>
      cases q with
      | int i =>
        simp only [mutOp, e2] at e
        split at e
        · rename_i hi
          split at e
          · rename_i y hy
            cases e
            obtain ⟨w, rfl, rw'⟩ := rps_one r
            simp only [Rp] at rw'
            subst rw'
            obtain ⟨z, hz, rz⟩ := h4.get hy
            have hlt : i.toNat < us.length := (List.getElem?_eq_some_iff.mp hz).1
            exact ⟨_, us, i, i.toNat, z, rfl, rfl, h3, by omega, by omega, seqIndex_of hi.1 (by omega), hz, k _ _ _ (post_upd st sr h1 h2 (h4.eraseIdx _) rz)⟩
          · cases e
        · cases e
      | _ => simp [mutOp] at e
end

/-! ### what is walked -/
/-- where the row stands: as a value, or in the store -/
def SrcAt (K : PySem.W.Frag) (Z m : List Addr) (H : Hp) (src : Option Nat) (xs : List PV) (tp : Bool) (a : Addr) : Prop :=
  match src with
  | none => ∃ us, (if tp then SqT K (hide (Z ++ m) H) a us else SqL K (hide (Z ++ m) H) a us) ∧ Rps K (hide (Z ++ m) H) xs us
  | some l => tp = false ∧ m[l]? = some a
theorem SrcAt.stp {K : PySem.W.Frag} {Z m m' : List Addr} {H H' : Hp} {src : Option Nat} {xs : List PV} {tp : Bool} {a : Addr} (s : Stp m H m' H') (h : SrcAt K Z m H src xs tp a) : SrcAt K Z m' H' src xs tp a := by
  cases src with
  | none =>
    obtain ⟨us, h1, h2⟩ := h
    refine ⟨us, ?_, Rps.le (s.hide Z) _ _ h2⟩
    cases tp
    · exact SqL.le (s.hide Z) h1
    · exact SqT.le (s.hide Z) h1
  | some l =>
    obtain ⟨h1, h2⟩ := h
    obtain ⟨r, rfl⟩ := s.pre
    refine ⟨h1, ?_⟩
    rw [List.getElem?_append_left (List.getElem?_eq_some_iff.mp h2).1]
    exact h2
theorem SrcAt.alt {K : PySem.W.Frag} {Z m : List Addr} {H : Hp} {p : Addr} {o : HO} {src : Option Nat} {xs : List PV} {tp : Bool} {a : Addr} (n : p ∈ Z) (h : SrcAt K Z m H src xs tp a) : SrcAt K Z m (upd H p o) src xs tp a := by
  cases src with
  | none =>
    unfold SrcAt at h ⊢
    simp only [hide_upd_in (List.mem_append_left m n)]
    exact h
  | some l => exact h
theorem SrcAt.new {K : PySem.W.Frag} {Z m : List Addr} {H : Hp} {p : Addr} {o : HO} {src : Option Nat} {xs : List PV} {tp : Bool} {a : Addr} (n : H p = none) (h : SrcAt K Z m H src xs tp a) : SrcAt K (p :: Z) m (upd H p o) src xs tp a := by
  cases src with
  | none =>
    unfold SrcAt at h ⊢
    simp only [List.cons_append, hide_new n]
    exact h
  | some l => exact h
/-- the row as it is read now -/
theorem SrcAt.read {K : PySem.W.Frag} {Z m : List Addr} {H : Hp} {S : Sto} {src : Option Nat} {xs : List PV} {tp : Bool} {a : Addr} (h : SrcAt K Z m H src xs tp a) (sr : SR K Z m S H) (st : still src xs S) :
    ∃ us, (if tp then SqT K H a us else SqL K H a us) ∧ Rps K (hide (Z ++ m) H) xs us := by
  cases src with
  | none =>
    obtain ⟨us, h1, h2⟩ := h
    refine ⟨us, ?_, h2⟩
    cases tp
    · exact SqL.le (hide_le _ _) h1
    · exact SqT.le (hide_le _ _) h1
  | some l =>
    obtain ⟨rfl, h2⟩ := h
    obtain ⟨b, us, g1, g2, g3⟩ := sr.sto l xs st
    rw [h2] at g1
    cases g1
    exact ⟨us, SqL.of g2, g3⟩
/-- an iterator J walks the row xs -/
structure Walks (K : PySem.W.Frag) (J : L2.It) (src : Option Nat) (xs : List PV) (ok : List Addr → List Addr → Hp → Prop) : Prop where
  stp : ∀ {Z m m' : List Addr} {H H' : Hp}, Stp m H m' H' → ok Z m H → ok Z m' H'
  new : ∀ {Z m : List Addr} {H : Hp} {p : Addr} {o : HO}, H p = none → ok Z m H → ok (p :: Z) m (upd H p o)
  alt : ∀ {Z m : List Addr} {H : Hp} {p : Addr} {o : HO}, p ∈ Z → ok Z m H → ok Z m (upd H p o)
  go : ∀ {Z m : List Addr} {S : Sto} {H : Hp} {i : Nat}, ok Z m H → SR K Z m S H → still src xs S → i < xs.length → J.go i H
  stop : ∀ {Z m : List Addr} {S : Sto} {H : Hp}, ok Z m H → SR K Z m S H → still src xs S → J.stop xs.length H
  yld : ∀ {Z m : List Addr} {S : Sto} {H H' : Hp} {i : Nat} {u : V}, ok Z m H → SR K Z m S H → still src xs S → i < xs.length → J.yld i H u H' → H' = H ∧ ∃ p, xs[i]? = some p ∧ Rp K (hide (Z ++ m) H) p u
theorem walks_list {K : PySem.W.Frag} {src : Option Nat} {xs : List PV} {a : Addr} : Walks K (Itl K a) src xs (fun Z m H => SrcAt K Z m H src xs false a) where
  stp := fun s h => h.stp s
  new := fun n h => h.new n
  alt := fun n h => h.alt n
  go := fun {Z m S H i} h sr st hi => by
    obtain ⟨us, h1, h2⟩ := h.read sr st
    exact ⟨us, us[i]'(by rw [h2.length]; exact hi), by simpa using h1, by simp [h2.length, hi]⟩
  stop := fun {Z m S H} h sr st => by
    obtain ⟨us, h1, h2⟩ := h.read sr st
    exact ⟨us, by simpa using h1, by rw [h2.length]; exact Nat.le_refl _⟩
  yld := fun {Z m S H H' i u} h sr st hi y => by
    obtain ⟨us, h1, h2⟩ := h.read sr st
    obtain ⟨rfl, y⟩ := y
    have e := y us (by simpa using h1)
    obtain ⟨w, hw, rw'⟩ := h2.get (List.getElem?_eq_getElem hi)
    rw [e] at hw
    cases hw
    exact ⟨rfl, _, List.getElem?_eq_getElem hi, rw'⟩
theorem walks_tup {K : PySem.W.Frag} {src : Option Nat} {xs : List PV} {a : Addr} : Walks K (Itt K a) src xs (fun Z m H => SrcAt K Z m H src xs true a) where
  stp := fun s h => h.stp s
  new := fun n h => h.new n
  alt := fun n h => h.alt n
  go := fun {Z m S H i} h sr st hi => by
    obtain ⟨us, h1, h2⟩ := h.read sr st
    exact ⟨us, us[i]'(by rw [h2.length]; exact hi), by simpa using h1, by simp [h2.length, hi]⟩
  stop := fun {Z m S H} h sr st => by
    obtain ⟨us, h1, h2⟩ := h.read sr st
    exact ⟨us, by simpa using h1, by rw [h2.length]; exact Nat.le_refl _⟩
  yld := fun {Z m S H H' i u} h sr st hi y => by
    obtain ⟨us, h1, h2⟩ := h.read sr st
    obtain ⟨rfl, y⟩ := y
    have e := y us (by simpa using h1)
    obtain ⟨w, hw, rw'⟩ := h2.get (List.getElem?_eq_getElem hi)
    rw [e] at hw
    cases hw
    exact ⟨rfl, _, List.getElem?_eq_getElem hi, rw'⟩
theorem walks_rng {K : PySem.W.Frag} {lo hi : Int} : Walks K (Itr lo (hi - lo).toNat) none ((rangeI lo hi).map .int) (fun _ _ _ => True) where
  stp := fun _ h => h
  new := fun _ h => h
  alt := fun _ h => h
  go := fun {Z m S H i} _ _ _ h => by
    rw [List.length_map] at h
    unfold rangeI at h
    rw [List.length_map, List.length_range] at h
    exact h
  stop := fun {Z m S H} _ _ _ => by
    show _ ≤ _
    simp [rangeI]
  yld := fun {Z m S H H' i u} _ _ _ h y => by
    obtain ⟨rfl, rfl⟩ := y
    refine ⟨rfl, .int (lo + i), ?_, by simp only [Rp]⟩
    rw [List.length_map] at h
    unfold rangeI at h ⊢
    rw [List.length_map, List.length_range] at h
    simp [h]
/-- the reading of what is walked -/
def tIt (K : PySem.W.Frag) (cf : Nat → List Val → Sto → Out (Val × Sto)) (x : It) : TI := fun σ H R => ∃ Z m ρ S xs src S', SR K Z m S H ∧ ER K Z m H ρ σ ∧ evalIt cf x ρ S = .ok (xs, src, S') ∧
  ∀ m' H' J ok, Stp m H m' H' → SR K Z m' S' H' → still src xs S' → Walks K J src xs ok → ok Z m' H' → R J H'
/-- lists and tuples alike -/
def iSeq (K : PySem.W.Frag) (tl : TE) : TI := fun σ H R => tl σ H fun x H1 => ∃ a, x = .ref a ∧ (((∃ xs, SqL K H1 a xs) ∧ R (Itl K a) H1) ∨ ((∃ xs, SqT K H1 a xs) ∧ R (Itt K a) H1))
theorem pi_seq {X : Cx} {tg l : Expr} {tl : TE} (hl : PE X l tl) : PI X tg l (iSeq X.K tl) := by
  refine ⟨fun pins s σ H R I h => ?_⟩
  refine thn (hl.run pins s σ H _ I h) fun v s1 ⟨x, H1, I1, r1, q1⟩ => ?_
  obtain ⟨a, e, q⟩ := q1
  subst e
  cases r1
  rcases q with ⟨⟨xs, hq⟩, q⟩ | ⟨⟨xs, hq⟩, q⟩
  · obtain ⟨its, rv, p, hz⟩ := I1.list hq
    refine wpAny_pyIter_list p.isList ?_
    refine ⟨s1.heap.objs.size, [s1.heap.objs.size], _, _, H1, rfl, I1.kept (t' := s1.toks) fun b o e => Heap.get?_push_of_some _ e, turn_list a _, ⟨_, Heap.get?_push_size _ rfl, rfl, rfl⟩, fun b hb => ?_, q⟩
    have e : b = s1.heap.objs.size := by simpa using hb
    subst e
    exact I1.fpOk (Nat.le_refl _) (I1.hok.fresh (Nat.le_refl _))
  · obtain ⟨its, rv, p, hz⟩ := I1.tuple hq
    refine wpAny_pyIter_tuple (show s1.heap.IsTuple a its.toArray from p) ?_
    refine ⟨s1.heap.objs.size, [s1.heap.objs.size], _, _, H1, rfl, I1.kept (t' := s1.toks) fun b o e => Heap.get?_push_of_some _ e, turn_tuple a _, ⟨_, Heap.get?_push_size _ rfl, rfl, rfl⟩, fun b hb => ?_, q⟩
    have e : b = s1.heap.objs.size := by simpa using hb
    subst e
    exact I1.fpOk (Nat.le_refl _) (I1.hok.fresh (Nat.le_refl _))
section
variable {K : PySem.W.Frag} {cf : Nat → List Val → Sto → Out (Val × Sto)} {σ : L2.St} {H : Hp} {R : L2.It → Hp → Prop} {a : Ex}
theorem rdI_ex (h : tIt K cf (.ex a) σ H R) : iSeq K (tE K cf a) σ H R := by
  obtain ⟨Z, m, ρ, S, xs, src, S', sr, er, e, k⟩ := h
  simp only [evalIt] at e
  obtain ⟨⟨v1, S1⟩, e1, e⟩ := bind_ok e
  obtain ⟨⟨ys, src'⟩, e2, e⟩ := bind_ok e
  cases e
  refine ⟨Z, m, ρ, S, v1, S1, sr, er, e1, fun m1 H1 u1 p1 => ?_⟩
  have n1 := p1.norm
  have val : ∀ p, norm v1 = .pv p → rowOf p = some ys → src' = none → ∃ a, u1 = .ref a ∧ (((∃ xs, SqL K H1 a xs) ∧ R (Itl K a) H1) ∨ ((∃ xs, SqT K H1 a xs) ∧ R (Itt K a) H1)) := fun p ep er' es => by
    have rv := n1.rv
    rw [ep] at rv
    subst es
    have rv : Rp K (hide (Z ++ m1) H1) p u1 := rv
    cases p with
    | tup ws =>
      cases er'
      simp only [Rp] at rv
      obtain ⟨a, us, rfl, s, q⟩ := rv
      exact ⟨a, rfl, .inr ⟨⟨us, SqT.le (hide_le _ _) s⟩, k m1 H1 _ _ n1.stp n1.sr trivial walks_tup ⟨us, by simpa using s, q⟩⟩⟩
    | lst ws =>
      cases er'
      simp only [Rp] at rv
      obtain ⟨a, us, rfl, s, q⟩ := rv
      exact ⟨a, rfl, .inl ⟨⟨us, SqL.of (hide_le _ _ _ _ s)⟩, k m1 H1 _ _ n1.stp n1.sr trivial walks_list ⟨us, by simpa using SqL.of s, q⟩⟩⟩
    | scr ns =>
      cases er'
      simp only [Rp] at rv
      obtain ⟨a, rfl, s⟩ := rv
      exact ⟨a, rfl, .inl ⟨⟨_, SqL.le (hide_le _ _) s⟩, k m1 H1 _ _ n1.stp n1.sr trivial walks_list ⟨_, by simpa using s, Rps.ints⟩⟩⟩
    | _ => cases er'
  cases v1 with
  | pv p =>
    simp only [iterOf] at e2
    obtain ⟨zs, e3, e2⟩ := bind_ok e2
    cases e2
    exact val p rfl (ofO_ok e3) rfl
  | new c =>
    simp only [iterOf] at e2
    obtain ⟨zs, e3, e2⟩ := bind_ok e2
    cases e2
    exact val c.pv rfl (ofO_ok e3) rfl
  | loc l =>
    simp only [iterOf] at e2
    split at e2
    · rename_i hl
      cases e2
      obtain ⟨p, us, rfl, h1, h2, h3, h4⟩ := loc_at n1.sr n1.rv hl
      exact ⟨p, rfl, .inl ⟨⟨us, SqL.of h3⟩, k m1 H1 _ _ n1.stp n1.sr hl walks_list ⟨rfl, h1⟩⟩⟩
    · cases e2
theorem rps_ints2 {H : Hp} {i j : Int} {us : List V} (h : Rps K H [.int i, .int j] us) : us = [.int i, .int j] := by
  simp only [Rps, Rp] at h
  obtain ⟨u, r, rfl, rfl, u', r', rfl, rfl, rfl⟩ := h
  rfl
theorem okR_iff {i : Int} (h : okR i = true) : -(2 ^ 62) ≤ i ∧ i < 2 ^ 62 := by
  simpa [okR] using h
theorem rdI_rng {es : Exs} (h : tIt K cf (.rng es) σ H R) : tA K cf es σ H fun us H1 => (∃ j : Int, us = [.int j] ∧ (-(2 ^ 62) ≤ j ∧ j < 2 ^ 62) ∧ R (Itr 0 j.toNat) H1) ∨ ∃ i j : Int, us = [.int i, .int j] ∧ (-(2 ^ 62) ≤ i ∧ i < 2 ^ 62 ∧ -(2 ^ 62) ≤ j ∧ j < 2 ^ 62) ∧ R (Itr i (j - i).toNat) H1 := by
  obtain ⟨Z, m, ρ, S, xs, src, S', sr, er, e, k⟩ := h
  simp only [evalIt] at e
  obtain ⟨⟨vs, S1⟩, e1, e⟩ := bind_ok e
  obtain ⟨ps, e2, e⟩ := bind_ok e
  obtain ⟨ys, e3, e⟩ := bind_ok e
  cases e
  refine ⟨Z, m, ρ, S, vs, S1, sr, er, e1, fun m1 H1 us s1 r1 rv => ?_⟩
  have rp := rv.items e2
  unfold opRng at e3
  split at e3
  · split at e3
    · rename_i h1
      cases e3
      obtain ⟨w, rfl, rw'⟩ := rps_one rp
      simp only [Rp] at rw'
      subst rw'
      refine .inl ⟨_, rfl, okR_iff h1, ?_⟩
      have := k m1 H1 _ _ s1 r1 trivial (walks_rng (K := K)) trivial
      simpa using this
    · cases e3
  · split at e3
    · rename_i h1
      cases e3
      simp only [Bool.and_eq_true] at h1
      cases rps_ints2 rp
      obtain ⟨a1, a2⟩ := okR_iff h1.1
      obtain ⟨a3, a4⟩ := okR_iff h1.2
      exact .inr ⟨_, _, rfl, ⟨a1, a2, a3, a4⟩, k m1 H1 _ _ s1 r1 trivial (walks_rng (K := K)) trivial⟩
    · cases e3
  · cases e3
end
end RS

set_option Elab.async false
set_option linter.all false
set_option maxRecDepth 100000
set_option maxHeartbeats 4000000
namespace RS
open PySem PySem.Spec PyProof.Rows L2

/-! ### targets -/
def gNames : List Nat → TGs
  | [] => gNil
  | i :: is => gCons (gName i) (gNames is)
def gTg (K : PySem.W.Frag) : Tg → TG
  | .name i => gName i
  | .tup is => gTup K is.length (gNames is)
section
variable {X : Cx} {T : TC} {cf : Nat → List Val → Sto → Out (Val × Sto)}
theorem pgs_names (o : XOk X T cf) : ∀ {es : List Expr} {is : List Nat}, trTs T es = some is → PGs X es (gNames is) ∧ (assignEach es X.env).length = is.length ∧ (assignEach es X.env).findIdx? (·.1) = none
  | [], is, h => by
    simp only [trTs] at h
    cases h
    exact ⟨pgs_nil, rfl, rfl⟩
  | e :: r, is, h => by
    cases e <;> simp only [trTs] at h <;> try (cases h; done)
    split at h
    · rename_i hl
      simp only [Option.bind_eq_bind, Option.bind_eq_some_iff, Option.some.injEq] at h
      obtain ⟨i, h1, js, h2, rfl⟩ := h
      obtain ⟨g1, g2, g3⟩ := pgs_names o h2
      obtain ⟨l1, l2⟩ := o.loc hl
      refine ⟨pgs_cons (pg_name (i := i) o.nd (by rw [o.N]; exact slotOf_get h1) l1 l2) g1 rfl, ?_, ?_⟩
      · show (assignEach r X.env).length + 1 = _
        rw [g2]
        rfl
      · show List.findIdx? _ ((false, _) :: assignEach r X.env) = none
        rw [List.findIdx?_cons, g3]
        rfl
    · cases h
theorem pg_tg (o : XOk X T cf) {e : Expr} {t : Tg} (h : trT T e = some t) : PG X e (gTg X.K t) := by
  cases e <;> simp only [trT] at h <;> try (cases h; done)
  · split at h
    · rename_i hl
      obtain ⟨i, h1, rfl⟩ := Option.map_eq_some_iff.mp h
      obtain ⟨l1, l2⟩ := o.loc hl
      exact pg_name (i := i) o.nd (by rw [o.N]; exact slotOf_get h1) l1 l2
    · cases h
  · obtain ⟨is, h1, rfl⟩ := Option.map_eq_some_iff.mp h
    obtain ⟨g1, g2, g3⟩ := pgs_names o h1
    exact pg_tup o.calm g1 g2 g3
end
section
variable {K : PySem.W.Frag} {Z m : List Addr} {H : Hp} {ρ ρ' : Env} {σ : L2.St} {S : Sto}
theorem ER.set {i : Nat} {v : Val} {u : V} (h : ER K Z m H ρ σ) (r : Rv K Z m H v u) : ER K Z m H (ρ.set i (some v)) (σ.set i (some u)) := by
  refine ⟨by simp [h.1], fun j w e => ?_⟩
  by_cases hj : i = j
  · subst hj
    have hl : i < ρ.length := by
      have := (List.getElem?_eq_some_iff.mp e).1
      simpa using this
    rw [List.getElem?_set_self hl] at e
    cases e
    exact ⟨u, List.getElem?_set_self (by rw [← h.1]; exact hl), r⟩
  · rw [List.getElem?_set_ne hj] at e
    rw [List.getElem?_set_ne hj]
    exact h.2 j w e
theorem ER.clear {i : Nat} (h : ER K Z m H ρ σ) : ER K Z m H (ρ.set i none) (σ.set i none) := by
  refine ⟨by simp [h.1], fun j w e => ?_⟩
  by_cases hj : i = j
  · subst hj
    have hl : i < ρ.length := by
      have := (List.getElem?_eq_some_iff.mp e).1
      simpa using this
    rw [List.getElem?_set_self hl] at e
    cases e
  · rw [List.getElem?_set_ne hj] at e
    rw [List.getElem?_set_ne hj]
    exact h.2 j w e
theorem ER.wipe : ∀ {vs : List Nat}, ER K Z m H ρ σ → ER K Z m H (RS.wipe ρ vs) (L2.wipe σ vs)
  | [], h => h
  | v :: vs, h => by
    unfold RS.wipe L2.wipe
    exact ER.clear (ER.wipe h)
theorem g_names {R : L2.St → Hp → Prop} : ∀ {is : List Nat} {xs : List PV} {us : List V} {ρ : Env} {σ : L2.St}, xs.length = is.length → Rps K (hide (Z ++ m) H) xs us → ER K Z m H ρ σ → (∀ σ', ER K Z m H (setvs is (xs.map .pv) ρ) σ' → (∀ j, j ∉ is → σ'[j]? = σ[j]?) → R σ' H) → gNames is us σ H R
  | [], xs, us, ρ, σ, l, r, e, k => by
    cases xs with
    | cons _ _ => simp at l
    | nil =>
      simp only [Rps] at r
      subst r
      exact ⟨rfl, k σ e fun _ _ => rfl⟩
  | i :: is, xs, us, ρ, σ, l, r, e, k => by
    cases xs with
    | nil => simp at l
    | cons x xs =>
      simp only [Rps] at r
      obtain ⟨u, w, rfl, r1, r2⟩ := r
      refine ⟨u, w, rfl, ?_⟩
      refine g_names (xs := xs) (by simpa using l) r2 (ER.set (v := .pv x) e r1) fun σ' e' f => k σ' ?_ fun j hj => ?_
      · simpa [setvs] using e'
      · have h1 : j ∉ is := fun z => hj (by simp [z])
        have h2 : i ≠ j := fun z => hj (by simp [z])
        rw [f j h1, List.getElem?_set_ne h2]
theorem g_tg {t : Tg} {v : Val} {u : V} {R : L2.St → Hp → Prop} (er : ER K Z m H ρ σ) (rv : Rv K Z m H v u) (e : bindT S t v ρ = .ok ρ') (k : ∀ σ', ER K Z m H ρ' σ' → (∀ j, j ∉ t.slots → σ'[j]? = σ[j]?) → R σ' H) : gTg K t u σ H R := by
  cases t with
  | name i =>
    simp only [bindT] at e
    cases e
    refine k _ (er.set rv) fun j hj => ?_
    have : i ≠ j := fun z => hj (by simp [Tg.slots, z])
    rw [List.getElem?_set_ne this]
  | tup is =>
    simp only [bindT] at e
    obtain ⟨p, e1, e⟩ := bind_ok e
    cases p with
    | tup xs =>
      simp only at e
      split at e
      · rename_i hl
        cases e
        cases v with
        | pv q =>
          cases e1
          have rv : Rp K (hide (Z ++ m) H) (.tup xs) u := rv
          simp only [Rp] at rv
          obtain ⟨a, us, rfl, s, r⟩ := rv
          exact ⟨a, us, rfl, SqT.le (hide_le _ _) s, by rw [r.length]; exact hl, g_names hl r er k⟩
        | loc l =>
          simp only [rd] at e1
          split at e1
          · rename_i c hc
            cases c
            cases e1
          · cases e1
        | new c => exact rv.elim
      · cases e
    | _ => cases e
theorem wipe_get : ∀ (vs : List Nat) (τ : L2.St) (j : Nat), (L2.wipe τ vs)[j]? = if j ∈ vs then (if j < τ.length then some none else none) else τ[j]? := by
  intro vs
  induction vs with
  | nil => intro τ j; simp [L2.wipe]
  | cons v vs ih =>
    intro τ j
    unfold L2.wipe
    by_cases hj : v = j
    · subst hj
      by_cases hlt : v < τ.length
      · rw [List.getElem?_set_self (by rw [L2.wipe_length]; exact hlt), if_pos (by simp), if_pos hlt]
      · rw [List.getElem?_eq_none (by rw [List.length_set, L2.wipe_length]; omega), if_pos (by simp), if_neg hlt]
    · rw [List.getElem?_set_ne hj, ih]
      have hj' : j ≠ v := fun z => hj z.symm
      simp [hj']
theorem wipe_eq {σ σ' : L2.St} {vs : List Nat} (hl : σ.length = σ'.length) (h : ∀ j, j ∉ vs → σ'[j]? = (σ[j]? : Option (Option V))) : L2.wipe σ' vs = L2.wipe σ vs := by
  apply List.ext_getElem?
  intro j
  rw [wipe_get, wipe_get, hl]
  by_cases hj : j ∈ vs
  · rw [if_pos hj, if_pos hj]
  · rw [if_neg hj, if_neg hj, h j hj]
theorem wipe_wipe {σ : L2.St} {vs : List Nat} : L2.wipe (L2.wipe σ vs) vs = L2.wipe σ vs :=
  (wipe_eq (L2.wipe_length σ vs).symm fun j hj => by rw [wipe_get, if_neg hj])
end

theorem setvs_len : ∀ {is : List Nat} {vs : List Val} {ρ : Env}, (setvs is vs ρ).length = ρ.length
  | [], _, _ => by simp [setvs]
  | _ :: _, [], _ => by simp [setvs]
  | i :: is, v :: vs, ρ => by simp only [setvs]; rw [setvs_len]; simp
theorem bindT_len {S : Sto} {t : Tg} {v : Val} {ρ ρ' : Env} (e : bindT S t v ρ = .ok ρ') : ρ.length = ρ'.length := by
  cases t with
  | name i => simp only [bindT] at e; cases e; simp
  | tup is =>
    simp only [bindT] at e
    obtain ⟨p, e1, e⟩ := bind_ok e
    cases p <;> simp only at e <;> try (cases e; done)
    split at e
    · cases e; rw [setvs_len]
    · cases e
/-! ### comprehensions -/
section
variable {X : Cx} {T : TC} {cf : Nat → List Val → Sto → Out (Val × Sto)}
theorem XOk.blk (o : XOk X T cf) (s : Shared) (H : Hp) (scope : Scope) (C : Addr) (cl : List (Str × Addr)) (fp : List Addr) : XOk (X.blk s H scope (compEnvC scope cl C X.env) fp) (T.blk scope) cf where
  sc := by
    show relabel scope X.env = relS scope T.sc
    unfold relabel relS
    rw [← o.sc]
    rfl
  N := o.N
  nd := o.nd
  calm := o.calm
  fn := fun x h => h
  xe := rfl
  blt := o.blt
  fns := o.fns
  room := o.room
def tCs (K : PySem.W.Frag) (cf : Nat → List Val → Sto → Out (Val × Sto)) : Exs → TT
  | .nil => tYes
  | .cons e _ => tT K cf e
section
variable {K : PySem.W.Frag} {Z m : List Addr} {H : Hp} {ρ ρ' : Env} {σ : L2.St} {S S' : Sto} {p : Addr} {o : HO}
theorem ER.new (n : H p = none) (h : ER K Z m H ρ σ) : ER K (p :: Z) m (upd H p o) ρ σ :=
  ⟨h.1, fun i v e => by
    obtain ⟨u, h1, h2⟩ := h.2 i v e
    refine ⟨u, h1, ?_⟩
    cases v with
    | pv q =>
      show Rp K (hide (p :: Z ++ m) (upd H p o)) q u
      rw [List.cons_append, hide_new n]
      exact h2
    | loc l => exact h2
    | new c => exact h2⟩
theorem ER.alt (n : p ∈ Z) (h : ER K Z m H ρ σ) : ER K Z m (upd H p o) ρ σ :=
  ⟨h.1, fun i v e => by
    obtain ⟨u, h1, h2⟩ := h.2 i v e
    refine ⟨u, h1, ?_⟩
    cases v with
    | pv q =>
      show Rp K (hide (Z ++ m) (upd H p o)) q u
      rw [hide_upd_in (List.mem_append_left m n)]
      exact h2
    | loc l => exact h2
    | new c => exact h2⟩
theorem SR.alt (n : p ∈ Z) (h : SR K Z m S H) : SR K Z m S (L2.upd H p o) :=
  ⟨h.len, h.nd, h.dis, fun a ha => by
    by_cases e : a = p
    · subst e; rw [upd_same]; simp
    · rw [upd_ne e]; exact h.trk a ha, fun l xs e => by
    obtain ⟨a, us, h1, h2, h3⟩ := h.sto l xs e
    have hne : a ≠ p := fun z => h.dis p n (by rw [← z]; exact List.mem_of_getElem? h1)
    exact ⟨a, us, h1, by rw [upd_ne hne]; exact h2, by rw [hide_upd_in (List.mem_append_left m n)]; exact h3⟩⟩
theorem rd_cs {cf : Nat → List Val → Sto → Out (Val × Sto)} {cond : Exs} {b : Bool} {R : Bool → Hp → Prop} (sr : SR K Z m S H) (er : ER K Z m H ρ σ) (e : evalCs cf cond ρ S = .ok (b, S')) (k : ∀ m' H', Stp m H m' H' → SR K Z m' S' H' → R b H') : tCs K cf cond σ H R := by
  cases cond with
  | nil =>
    simp only [evalCs] at e
    cases e
    exact k m H (Stp.refl _ _) sr
  | cons c r =>
    simp only [evalCs] at e
    obtain ⟨⟨v, S1⟩, e1, e⟩ := bind_ok e
    obtain ⟨q, e2, e⟩ := bind_ok e
    dsimp only at e e2
    split at e
    · rename_i ht
      cases e
      exact ⟨Z, m, ρ, S, v, _, q, sr, er, e1, e2, ht, k⟩
    · cases e
end
theorem rd_comp {K : PySem.W.Frag} {σ : L2.St} {H : Hp} {Q : VK} {vs : List Nat} {t : Tg} {it : It} {cond : Exs} {elt : Ex} (ht : ∀ j, j ∈ t.slots → j ∈ vs) (h : tE K cf (.comp vs t it cond elt) σ H Q) :
    tLc (tIt K cf it) (gTg K t) (tCs K cf cond) (tE K cf elt) vs σ H Q := by
  obtain ⟨Z, m, ρ, S, v, S', sr, er, e, k⟩ := h
  simp only [evalE] at e
  obtain ⟨⟨xs, src, S1⟩, e1, e⟩ := bind_ok e
  obtain ⟨⟨ys, S2⟩, e2, e⟩ := bind_ok e
  dsimp only at e2 e
  split at e
  · rename_i hlen
    obtain ⟨hv, hS⟩ : v = .new (.lst ys) ∧ S' = S2 := by cases e; exact ⟨rfl, rfl⟩
    subst hv
    rw [hS] at k
    refine ⟨Z, m, ρ, S, xs, src, S1, sr, er, e1, fun m1 H1 J ok s1 r1 st1 wk hok => ?_⟩
    intro D hD
    generalize hF : (fun (x : PV) (S : Sto) => (do
      let ρ1 ← bindT S t (.pv x) (RS.wipe ρ vs)
      let (b, S) ← evalCs cf cond ρ1 S
      if b = true then do
        let (v, S) ← evalE cf elt ρ1 S
        let p ← item v
        Out.ok (some p, S)
      else Out.ok (none, S) : Out (Option PV × Sto))) = F at e2
    refine ⟨fun i k Hc => k = xs.length - i ∧ i ≤ xs.length ∧ ∃ mi Si out us rest, Stp m1 H1 mi Hc ∧ SR K (D :: Z) mi Si Hc ∧ ok (D :: Z) mi Hc ∧ ER K (D :: Z) mi Hc ρ σ ∧ Hc D = some (.lst us) ∧ Rps K (hide (D :: Z ++ mi) Hc) out us ∧ loopC F src xs (xs.drop i) Si = .ok (rest, S2) ∧ ys = out ++ rest, ?_, ?_⟩
    · refine ⟨xs.length, by simp, Nat.zero_le _, m1, S1, [], [], ys, ?_⟩
      obtain ⟨p', us', ep, n1, n2, n3, hp, hst, hsr, hr⟩ := Post.of_new (xs := []) r1 hD Rps.nil
      cases ep
      rw [upd_same] at hp
      cases hp
      exact ⟨hst, hsr, wk.new hD hok, ER.new hD (er.stp s1), upd_same, hr, e2, rfl⟩
    · rintro i k' Hc ⟨rfl, hi, mi, Si, out, us, rest, hst, hsr, okc, erc, hDc, hr, hl, rfl⟩
      have dm : D ∉ mi := hsr.dis D (by simp)
      by_cases hlt : i < xs.length
      · rw [List.drop_eq_getElem_cons hlt] at hl
        simp only [loopC] at hl
        split at hl
        · rename_i hstill
          obtain ⟨⟨o, S3⟩, e3, hl⟩ := bind_ok hl
          obtain ⟨⟨zs, S4⟩, e4, hl⟩ := bind_ok hl
          obtain ⟨hr1, hr2⟩ : rest = o.toList ++ zs ∧ S2 = S4 := by cases hl; exact ⟨rfl, rfl⟩
          subst hr1
          rw [← hr2] at e4
          refine .inr ⟨wk.go okc hsr hstill hlt, fun Hc => i + 1 ≤ xs.length ∧ ∃ mi Si out' us rest, Stp m1 H1 mi Hc ∧ SR K (D :: Z) mi Si Hc ∧ ok (D :: Z) mi Hc ∧ ER K (D :: Z) mi Hc ρ σ ∧ Hc D = some (.lst us) ∧ Rps K (hide (D :: Z ++ mi) Hc) out' us ∧ loopC F src xs (xs.drop (i + 1)) Si = .ok (rest, S2) ∧ out ++ (o.toList ++ zs) = out' ++ rest, fun Hn hn => ⟨_, ?_, rfl, hn⟩, fun u Hy y => ?_⟩
          · omega
          · obtain ⟨rfl, p, hp, rp⟩ := wk.yld okc hsr hstill hlt y
            rw [List.getElem?_eq_getElem hlt] at hp
            cases hp
            rw [← hF] at e3
            dsimp only at e3
            obtain ⟨ρ1, e5, e3⟩ := bind_ok e3
            obtain ⟨⟨b, S5⟩, e6, e3⟩ := bind_ok e3
            refine g_tg (v := .pv xs[i]) (u := u) (ER.wipe (vs := vs) erc) rp e5 fun σ2 er2 fr => ⟨?_, ?_⟩
            · rw [show L2.wipe σ2 vs = L2.wipe (L2.wipe σ vs) vs from wipe_eq (by rw [← er2.1, ← (ER.wipe (vs := vs) erc).1]; exact (bindT_len e5)) fun j hj => fr j fun z => hj (ht j z)]
              exact wipe_wipe
            · refine rd_cs hsr er2 e6 fun m6 H6 s6 r6 => ?_
              cases b with
              | false =>
                rw [if_neg Bool.false_ne_true]
                simp only [Bool.false_eq_true, if_false] at e3
                obtain ⟨ho, hS3⟩ : o = none ∧ S3 = S5 := by cases e3; exact ⟨rfl, rfl⟩
                subst ho
                rw [hS3] at e4
                exact ⟨hlt, m6, S5, out, us, zs, hst.trans s6, r6, wk.stp s6 okc, erc.stp s6, s6.ext _ _ hDc dm, Rps.le (s6.hide _) _ _ hr, e4, by simp⟩
              | true =>
                rw [if_pos rfl]
                simp only [if_true] at e3
                obtain ⟨⟨v, S7⟩, e7, e3⟩ := bind_ok e3
                obtain ⟨q, e8, e3⟩ := bind_ok e3
                obtain ⟨ho, hS3⟩ : o = some q ∧ S3 = S7 := by cases e3; exact ⟨rfl, rfl⟩
                subst ho
                rw [hS3] at e4
                refine ⟨D :: Z, m6, ρ1, S5, v, S7, r6, er2.stp s6, e7, fun m7 H7 u7 p7 => ?_⟩
                have n7 := p7.norm
                have s7 := s6.trans n7.stp
                have rq : Rp K (hide (D :: Z ++ m7) H7) q u7 := by
                  have rv := n7.rv
                  cases v with
                  | pv w => cases e8; exact rv
                  | new c => cases e8; exact rv
                  | loc l => cases e8
                have dm7 : D ∈ D :: Z := by simp
                refine ⟨us, s7.ext _ _ hDc dm, ?_, hlt, m7, S7, out ++ [q], us ++ [u7], zs, ?_, n7.sr.alt dm7, wk.alt dm7 (wk.stp s7 okc), (erc.stp s7).alt dm7, upd_same, ?_, e4, by simp⟩
                · rw [hr.length, ← line_eq]
                  simp at hlen
                  omega
                · have st2 := hst.trans s7
                  refine ⟨st2.pre, st2.new, fun a w ha hn => ?_⟩
                  rw [upd_ne (ne_of_none ha hD)]
                  exact st2.ext a w ha hn
                · rw [hide_upd_in (List.mem_append_left _ dm7)]
                  exact (Rps.le (s7.hide _) _ _ hr).append (Rps.cons rq Rps.nil)
        · cases hl
      · have hi' : i = xs.length := by omega
        subst hi'
        rw [List.drop_length] at hl
        simp only [loopC] at hl
        split at hl
        · rename_i hstill
          obtain ⟨hr1, hr2⟩ : rest = [] ∧ S2 = Si := by cases hl; exact ⟨rfl, rfl⟩
          subst hr1
          rw [hr2] at k
          refine .inl ⟨wk.stop okc hsr hstill, k mi Hc (.ref D) (Post.after s1 ?_)⟩
          rw [List.append_nil]
          refine ⟨D, us, rfl, dm, fun z => r1.trk D z hD, hD, hDc, hst, hsr, hr⟩
        · cases hl
  · cases e
end
end RS

set_option Elab.async false
set_option linter.all false
set_option maxRecDepth 100000
set_option maxHeartbeats 4000000
namespace RS
open PySem PySem.Spec PyProof.Rows L2

section
variable {X : Cx} {T : TC} {cf : Nat → List Val → Sto → Out (Val × Sto)}
/-- what is shown of an expression -/
structure SE (X : Cx) (cf : Nat → List Val → Sto → Out (Val × Sto)) (e : Expr) (x : Ex) : Prop where
  pe : PE X e (tE X.K cf x)
  pt : PT X e (tT X.K cf x)
  pw : ∀ op vs pos, e = .BoolOp op vs pos → PW X e (tT X.K cf x)
theorem SE.plain {e : Expr} {x : Ex} (h : PE X e (tE X.K cf x)) (he : ∀ whole, isTrue e X.env whole = (do let v ← whole; standAt e.pos; holding [v] (PySem.truthy v))) (nb : ∀ op vs pos, e ≠ .BoolOp op vs pos) : SE X cf e x :=
  ⟨h, PT.imp (pt_truth h he) fun σ H Q q => rdT_E q, fun op vs pos z => absurd z (nb op vs pos)⟩
theorem pa_of {n : Nat} (ih : ∀ {e : Expr} {x : Ex}, trE n T e = some x → SE X cf e x) : ∀ {es : List Expr} {xs : Exs}, trL (trE n T) es = some xs → PA X es (tA X.K cf xs)
  | [], xs, h => by
    simp only [trL] at h
    cases h
    exact PA.imp pa_nil fun σ H Q q => rdA_nil q
  | e :: es, xs, h => by
    simp only [trL, Option.bind_eq_bind, Option.bind_eq_some_iff, Option.some.injEq] at h
    obtain ⟨x, h1, ys, h2, rfl⟩ := h
    exact PA.imp (pa_cons (ih h1).pe (pa_of ih h2) (starEach_cons (trE_notStar h1))) fun σ H Q q => rdA_cons q
theorem po_of {n : Nat} (ih : ∀ {e : Expr} {x : Ex}, trE n T e = some x → SE X cf e x) : ∀ {o : Option Expr} {xs : Exs}, trL (trE n T) o.toList = some xs → ∃ t, PO X o t ∧ ∀ σ H Q, tO X.K cf xs σ H Q → t σ H Q
  | none, xs, h => by
    simp only [Option.toList, trL] at h
    cases h
    exact ⟨_, po_none, fun σ H Q q => rdO_nil q⟩
  | some e, xs, h => by
    simp only [Option.toList, trL, Option.bind_eq_bind, Option.bind_eq_some_iff, Option.some.injEq] at h
    obtain ⟨x, h1, ys, h2, rfl⟩ := h
    exact ⟨_, po_some (ih h1).pe, fun σ H Q q => rdO_cons q⟩
theorem PO.imp {o : Option Expr} {t t' : TO} (h : PO X o t) (i : ∀ σ H Q, t' σ H Q → t σ H Q) : PO X o t' := ⟨fun pins s σ H Q I q => h.run pins s σ H Q I (i σ H Q q)⟩
theorem trL_len {n : Nat} : ∀ {es : List Expr} {xs : Exs}, trL (trE n T) es = some xs → xs.len = es.length
  | [], xs, h => by simp only [trL] at h; cases h; rfl
  | e :: es, xs, h => by
    simp only [trL, Option.bind_eq_bind, Option.bind_eq_some_iff, Option.some.injEq] at h
    obtain ⟨x, h1, ys, h2, rfl⟩ := h
    simp only [Exs.len, List.length_cons, trL_len h2]
theorem evalEs_len : ∀ {xs : Exs} {ρ : Env} {S : Sto} {vs : List Val} {S' : Sto}, evalEs cf xs ρ S = .ok (vs, S') → vs.length = xs.len
  | .nil, ρ, S, vs, S', h => by simp only [evalEs] at h; cases h; rfl
  | .cons e r, ρ, S, vs, S', h => by
    simp only [evalEs] at h
    obtain ⟨⟨v1, S1⟩, e1, h⟩ := bind_ok h
    obtain ⟨⟨v2, S2⟩, e2, h⟩ := bind_ok h
    cases h
    simp only [Exs.len, List.length_cons, evalEs_len e2]
theorem blt_names {x : Str} (h : x ∈ bltNames) (o : XOk X T cf) (hf : T.fx.lookup x = none) : X.mg x = none := o.blt x h hf
theorem ne_name {x : Str} (h : x ∈ bltNames) : x ≠ "__name__" := by
  intro e
  subst e
  revert h
  decide
theorem pi_of {n : Nat} (o : XOk X T cf) (ih : ∀ {e : Expr} {x : Ex}, trE n T e = some x → SE X cf e x) {e : Expr} {it : It} (tg : Expr) (h : trIt (trE n T) T e = some it) : PI X tg e (tIt X.K cf it) ∧ isSet e = false := by
  have plain : ∀ x, trE n T e = some x → it = .ex x → PI X tg e (tIt X.K cf it) := fun x h1 h2 => by
    subst h2
    exact PI.imp (pi_seq (ih h1).pe) fun σ H Q q => rdI_ex q
  have notset : ∀ x, trE n T e = some x → isSet e = false := fun x h1 => by
    cases n with
    | zero => simp [trE] at h1
    | succ n => cases e <;> first | rfl | (simp [trE] at h1)
  have rng : ∀ {args : List Expr} {p pos : Pos}, e = .Call (.Name "range" p) args [] pos → (args.length = 1 ∨ args.length = 2) → T.glo "range" = true → T.fx.lookup ("range" : Str) = none → ∀ es, trL (trE n T) args = some es → it = .rng es → PI X tg e (tIt X.K cf it) := by
    intro args p pos ee hl hg hf es h1 h2
    subst ee
    subst h2
    have hm : X.mg "range" = none := o.blt _ (by decide) hf
    have pa := pa_of ih h1
    have st := trL_notStar h1
    rcases hl with hl | hl
    · obtain ⟨a, rfl⟩ : ∃ a, args = [a] := by
        cases args with
        | nil => cases hl
        | cons a r => cases r with
          | nil => exact ⟨a, rfl⟩
          | cons _ _ => simp at hl
      refine PI.imp (pi_range1 (o.glo hg).1 hm pa (starEach_cons (st a (by simp)))) fun σ H R q => ?_
      obtain ⟨Z, m, ρ, S, vs, S', sr, er, e, k⟩ := rdI_rng q
      refine ⟨Z, m, ρ, S, vs, S', sr, er, e, fun m' H' us s1 r1 rv => ?_⟩
      rcases k m' H' us s1 r1 rv with ⟨j, rfl, ⟨b1, b2⟩, hR⟩ | ⟨i, j, rfl, b, hR⟩
      · exact ⟨j, rfl, b1, b2, hR⟩
      · exfalso
        have e1 := rv.length
        have e2 := evalEs_len e
        rw [trL_len h1] at e2
        simp at e1
        simp at e2
        omega
    · obtain ⟨a, b, rfl⟩ : ∃ a b, args = [a, b] := by
        cases args with
        | nil => cases hl
        | cons a r => cases r with
          | nil => simp at hl
          | cons b r => cases r with
            | nil => exact ⟨a, b, rfl⟩
            | cons _ _ => simp at hl
      refine PI.imp (pi_range2 (o.glo hg).1 hm pa (by rw [starEach_cons (st a (by simp)), starEach_cons (st b (by simp))]; rfl) (by rw [starEach_cons (st b (by simp))]; rfl)) fun σ H R q => ?_
      obtain ⟨Z, m, ρ, S, vs, S', sr, er, e, k⟩ := rdI_rng q
      refine ⟨Z, m, ρ, S, vs, S', sr, er, e, fun m' H' us s1 r1 rv => ?_⟩
      rcases k m' H' us s1 r1 rv with ⟨j, rfl, ⟨b1, b2⟩, hR⟩ | ⟨i, j, rfl, b, hR⟩
      · exfalso
        have e1 := rv.length
        have e2 := evalEs_len e
        rw [trL_len h1] at e2
        simp at e1
        simp at e2
        omega
      · exact ⟨i, j, rfl, b, hR⟩
  unfold trIt at h
  split at h
  · split at h
    · rename_i hc
      obtain ⟨rfl, hg, hf⟩ := hc
      obtain ⟨es, h1, rfl⟩ := Option.map_eq_some_iff.mp h
      exact ⟨rng rfl (.inl rfl) hg hf es h1 rfl, rfl⟩
    · obtain ⟨x, h1, rfl⟩ := Option.map_eq_some_iff.mp h
      exact ⟨plain x h1 rfl, notset x h1⟩
  · split at h
    · rename_i hc
      obtain ⟨rfl, hg, hf⟩ := hc
      obtain ⟨es, h1, rfl⟩ := Option.map_eq_some_iff.mp h
      exact ⟨rng rfl (.inr rfl) hg hf es h1 rfl, rfl⟩
    · obtain ⟨x, h1, rfl⟩ := Option.map_eq_some_iff.mp h
      exact ⟨plain x h1 rfl, notset x h1⟩
  · split at h
    · cases h
    · obtain ⟨x, h1, rfl⟩ := Option.map_eq_some_iff.mp h
      exact ⟨plain x h1 rfl, notset x h1⟩
/-- the parts of a comprehension -/
theorem cmp_sound {n : Nat} (o : XOk X T cf) (ih : ∀ {X' : Cx} {T' : TC} {e : Expr} {x : Ex}, XOk X' T' cf → trE n T' e = some x → SE X' cf e x) {elt tg iter : Expr} {ifs : List Expr} {scope : Scope} {c : Cmp} (h : trCmp (trE n) T elt tg iter ifs scope = some c) :
    PI X tg iter (tIt X.K cf c.it) ∧ BlkOk X.N X.env.scope scope (ownOf T.N scope.names) ∧ c.vs = (ownOf T.N scope.names).map (·.2) ∧
    (∀ (s : Shared) (H : Hp) (C : Addr) (cl : List (Str × Addr)) (fp : List Addr), PG (X.blk s H scope (compEnvC scope cl C X.env) fp) tg (gTg X.K c.tg)) ∧
    (∀ (s : Shared) (H : Hp) (C : Addr) (cl : List (Str × Addr)) (fp : List Addr), PTs (X.blk s H scope (compEnvC scope cl C X.env) fp) ifs (tCs X.K cf c.cond)) ∧
    (∀ (s : Shared) (H : Hp) (C : Addr) (cl : List (Str × Addr)) (fp : List Addr), PE (X.blk s H scope (compEnvC scope cl C X.env) fp) elt (tE X.K cf c.elt)) ∧
    (∀ x, foldedSetIterable iter X.env x = pure x) ∧ ∀ j, j ∈ c.tg.slots → j ∈ c.vs := by
  unfold trCmp at h
  simp only at h
  split at h
  · rename_i hb
    simp only [Option.bind_eq_bind, Option.bind_eq_some_iff] at h
    obtain ⟨it, h1, t, h2, cs, h3, x, h4, h⟩ := h
    split at h
    · rename_i hs
      cases h
      simp only [Bool.and_eq_true, List.all_eq_true, decide_eq_true_eq] at hs
      obtain ⟨hs1, hs2⟩ := hs
      obtain ⟨p1, p2⟩ := pi_of o (fun {e x} h => ih o h) tg h1
      refine ⟨p1, ?_, rfl, fun s H C cl fp => ?_, fun s H C cl fp => ?_, fun s H C cl fp => ?_, folded_of p2, fun j hj => ?_⟩
      · rw [o.N, o.sc]
        exact blkOk_by hb
      · exact pg_tg (o.blk s H scope C cl fp) h2
      · cases ifs with
        | nil =>
          simp only [trL] at h3
          cases h3
          exact pts_nil
        | cons c1 r =>
          simp only [trL, Option.bind_eq_bind, Option.bind_eq_some_iff, Option.some.injEq] at h3
          obtain ⟨y, h5, ys, h6, rfl⟩ := h3
          cases r with
          | nil => exact pts_one (ih (o.blk s H scope C cl fp) h5).pt
          | cons c2 r =>
            simp only [trL, Option.bind_eq_bind, Option.bind_eq_some_iff, Option.some.injEq] at h6
            obtain ⟨z, _, zs, _, rfl⟩ := h6
            simp [Exs.len] at hs2
      · exact (ih (o.blk s H scope C cl fp) h4).pe
      · simpa using hs1 j hj
    · cases h
  · cases h
end
end RS

set_option Elab.async false
set_option linter.all false
set_option maxRecDepth 100000
set_option maxHeartbeats 4000000
namespace RS
open PySem PySem.Spec PyProof.Rows L2

section
variable {X : Cx} {T : TC} {cf : Nat → List Val → Sto → Out (Val × Sto)}
theorem one_arg {K : PySem.W.Frag} {σ : L2.St} {H : Hp} {Q : VK} {a : Ex} {o : Op1} (h : tE K cf (.op1 o a) σ H Q) : tCB (rC1 K (op1 o)) (tCons (tE K cf a) tNil) σ H Q := by
  obtain ⟨Z, m, ρ, S, v, S', sr, er, e, k⟩ := rdE_op1 h
  refine ⟨Z, m, ρ, S, v, S', sr, er, e, fun m' H' u p => ?_⟩
  obtain ⟨z, q, r, tk, rr, e1, k1⟩ := k m' H' u p
  exact ⟨z, q, u, r, rfl, tk, rr, e1, k1⟩
theorem two_args {K : PySem.W.Frag} {σ : L2.St} {H : Hp} {Q : VK} {a b : Ex} {o : Op2} (ho : o ≠ .idx) (h : tE K cf (.op2 o a b) σ H Q) : tCB (rC2 K (op2 o)) (tCons (tE K cf a) (tCons (tE K cf b) tNil)) σ H Q := by
  obtain ⟨Z, m, ρ, S, v, S', sr, er, e, k⟩ := rdE_op2 ho h
  refine ⟨Z, m, ρ, S, v, S', sr, er, e, fun m' H' u p => ?_⟩
  obtain ⟨Z1, m1, ρ1, S1, v1, S1', sr1, er1, e1, k1⟩ := k m' H' u p
  exact ⟨Z1, m1, ρ1, S1, v1, S1', sr1, er1, e1, fun m2 H2 u2 p2 => ⟨u, u2, rfl, k1 m2 H2 u2 p2⟩⟩
theorem SE.call1 {id : String} {x : Str} {a : Expr} {y : Ex} {o : Op1} {p pos : Pos} (ok : XOk X T cf) (hx : x ∈ bltNames) (hg : T.glo x = true) (hf : T.fx.lookup x = none) (hv : bootBuiltins x = some (.builtin id)) (hc : CallR X (.builtin id) (rC1 X.K (op1 o)))
    (ha : PE X a (tE X.K cf y)) (hs : ∀ b q, a ≠ .Starred b q) : SE X cf (.Call (.Name x p) [a] [] pos) (.op1 o y) := by
  refine SE.plain (PE.imp (pe_callB hc (ok.glo hg).1 (ok.blt x hx hf) hv (pa_cons ha pa_nil (starEach_cons hs)) (ne_name hx) (ok.glo hg).2 (starEach_cons hs) (star_any (es := []) (fun _ h => by cases h))) fun σ H Q q => one_arg q) (fun _ => rfl) (fun _ _ _ z => by cases z)
theorem SE.callT1 {id : String} {x : Str} {a : Expr} {y : Ex} {o : Op1} {p pos : Pos} (ok : XOk X T cf) (hx : x ∈ bltNames) (hg : T.glo x = true) (hf : T.fx.lookup x = none) (hv : bootBuiltins x = some (.type id)) (hc : CallR X (.type id) (rC1 X.K (op1 o)))
    (ha : PE X a (tE X.K cf y)) (hs : ∀ b q, a ≠ .Starred b q) : SE X cf (.Call (.Name x p) [a] [] pos) (.op1 o y) := by
  refine SE.plain (PE.imp (pe_callTy hc (ok.glo hg).1 (ok.blt x hx hf) hv (pa_cons ha pa_nil (starEach_cons hs)) (ne_name hx) (ok.glo hg).2 (starEach_cons hs) (star_any (es := []) (fun _ h => by cases h))) fun σ H Q q => one_arg q) (fun _ => rfl) (fun _ _ _ z => by cases z)

theorem blt1_sound (ok : XOk X T cf) {x : Str} {o : Op1} (h : blt1 x = some o) (hg : T.glo x = true) (hf : T.fx.lookup x = none) {a : Expr} {y : Ex} {p pos : Pos} (ha : PE X a (tE X.K cf y)) (hs : ∀ b q, a ≠ .Starred b q) : SE X cf (.Call (.Name x p) [a] [] pos) (.op1 o y) := by
  unfold blt1 at h
  by_cases e : x = "len"
  · subst e; rw [if_pos rfl] at h; cases h; exact SE.call1 ok (by decide) hg hf (by decide +kernel) cr_len ha hs
  rw [if_neg e] at h
  clear e
  by_cases e : x = "tuple"
  · subst e; rw [if_pos rfl] at h; cases h; exact SE.callT1 ok (by decide) hg hf (by decide +kernel) cr_tuple ha hs
  rw [if_neg e] at h
  clear e
  by_cases e : x = "list"
  · subst e; rw [if_pos rfl] at h; cases h; exact SE.callT1 ok (by decide) hg hf (by decide +kernel) cr_list ha hs
  rw [if_neg e] at h
  clear e
  by_cases e : x = "int"
  · subst e; rw [if_pos rfl] at h; cases h; exact SE.callT1 ok (by decide) hg hf (by decide +kernel) cr_int ha hs
  rw [if_neg e] at h
  clear e
  by_cases e : x = "sum"
  · subst e; rw [if_pos rfl] at h; cases h; exact SE.call1 ok (by decide) hg hf (by decide +kernel) (cr_sumS ok.calm) ha hs
  rw [if_neg e] at h
  clear e
  by_cases e : x = "max"
  · subst e; rw [if_pos rfl] at h; cases h; exact SE.call1 ok (by decide) hg hf (by decide +kernel) (cr_maxS ok.calm) ha hs
  rw [if_neg e] at h
  clear e
  by_cases e : x = "min"
  · subst e; rw [if_pos rfl] at h; cases h; exact SE.call1 ok (by decide) hg hf (by decide +kernel) (cr_minS ok.calm) ha hs
  rw [if_neg e] at h
  clear e
  by_cases e : x = "abs"
  · subst e; rw [if_pos rfl] at h; cases h; exact SE.call1 ok (by decide) hg hf (by decide +kernel) cr_abs ha hs
  rw [if_neg e] at h
  clear e
  by_cases e : x = "all"
  · subst e; rw [if_pos rfl] at h; cases h; exact SE.call1 ok (by decide) hg hf (by decide +kernel) (cr_allS ok.calm) ha hs
  rw [if_neg e] at h
  clear e
  by_cases e : x = "any"
  · subst e; rw [if_pos rfl] at h; cases h; exact SE.call1 ok (by decide) hg hf (by decide +kernel) (cr_anyS ok.calm) ha hs
  rw [if_neg e] at h
  clear e
  cases h
theorem SE.call2 {id : String} {x : Str} {a b : Expr} {y z : Ex} {o : Op2} {p pos : Pos} (ok : XOk X T cf) (hx : x ∈ bltNames) (hg : T.glo x = true) (hf : T.fx.lookup x = none) (hv : bootBuiltins x = some (.builtin id)) (ho : o ≠ .idx) (hc : CallR X (.builtin id) (rC2 X.K (op2 o)))
    (ha : PE X a (tE X.K cf y)) (hs : ∀ b q, a ≠ .Starred b q) (hb : PE X b (tE X.K cf z)) (hs2 : ∀ c q, b ≠ .Starred c q) : SE X cf (.Call (.Name x p) [a, b] [] pos) (.op2 o y z) := by
  refine SE.plain (PE.imp (pe_callB hc (ok.glo hg).1 (ok.blt x hx hf) hv (pa_cons ha (pa_cons hb pa_nil (starEach_cons hs2)) (starEach_cons hs)) (ne_name hx) (ok.glo hg).2 (starEach_cons hs) (star_any (fun e h => by
    have : e = b := by simpa using h
    subst this; exact hs2))) fun σ H Q q => two_args ho q) (fun _ => rfl) (fun _ _ _ z => by cases z)
theorem blt2_sound (ok : XOk X T cf) {x : Str} {o : Op2} (h : blt2 x = some o) (hg : T.glo x = true) (hf : T.fx.lookup x = none) {a b : Expr} {y z : Ex} {p pos : Pos} (ha : PE X a (tE X.K cf y)) (hs : ∀ b q, a ≠ .Starred b q) (hb : PE X b (tE X.K cf z)) (hs2 : ∀ c q, b ≠ .Starred c q) : SE X cf (.Call (.Name x p) [a, b] [] pos) (.op2 o y z) := by
  unfold blt2 at h
  by_cases e : x = "max"
  · subst e; rw [if_pos rfl] at h; cases h; exact SE.call2 ok (by decide) hg hf (by decide +kernel) (fun z => by cases z) (cr_max2 ok.calm) ha hs hb hs2
  rw [if_neg e] at h
  by_cases e : x = "min"
  · subst e; rw [if_pos rfl] at h; cases h; exact SE.call2 ok (by decide) hg hf (by decide +kernel) (fun z => by cases z) (cr_min2 ok.calm) ha hs hb hs2
  rw [if_neg e] at h
  cases h
theorem tyOf_boot {t : Str} {ty : Ty} (h : tyOf t = some ty) : t ∈ bltNames ∧ bootBuiltins t = some (.type ty.name) := by
  unfold tyOf at h
  by_cases e : t = "bool"
  · subst e; rw [if_pos rfl] at h; cases h; exact ⟨by decide, by decide +kernel⟩
  rw [if_neg e] at h
  by_cases e : t = "int"
  · subst e; rw [if_pos rfl] at h; cases h; exact ⟨by decide, by decide +kernel⟩
  rw [if_neg e] at h
  by_cases e : t = "str"
  · subst e; rw [if_pos rfl] at h; cases h; exact ⟨by decide, by decide +kernel⟩
  rw [if_neg e] at h
  by_cases e : t = "tuple"
  · subst e; rw [if_pos rfl] at h; cases h; exact ⟨by decide, by decide +kernel⟩
  rw [if_neg e] at h
  by_cases e : t = "list"
  · subst e; rw [if_pos rfl] at h; cases h; exact ⟨by decide, by decide +kernel⟩
  rw [if_neg e] at h
  cases h
theorem isi_sound (ok : XOk X T cf) (hg : T.glo "isinstance" = true) (hf : T.fx.lookup ("isinstance" : Str) = none) {a : Expr} {y : Ex} {t : Str} {ty : Ty} {p q pos : Pos} (ha : PE X a (tE X.K cf y)) (hs : ∀ b q, a ≠ .Starred b q) (ht : tyOf t = some ty) (hgt : T.glo t = true) (hft : T.fx.lookup t = none) :
    SE X cf (.Call (.Name "isinstance" p) [a, .Name t q] [] pos) (.op1 (.isi ty) y) := by
  obtain ⟨h1, h2⟩ := tyOf_boot ht
  have hs2 : ∀ c r, Expr.Name t q ≠ .Starred c r := fun _ _ z => by cases z
  refine SE.plain (PE.imp (pe_callB (cr_isi (t := ty)) (ok.glo hg).1 (ok.blt _ (by decide) hf) (by decide +kernel) (pa_cons ha (pa_cons (pe_bltn (v := .ty ty.name) (ok.glo hgt).1 (ok.blt t h1 hft) h2 rfl (ne_name h1) (ok.glo hgt).2) pa_nil (starEach_cons hs2)) (starEach_cons hs)) (ne_name (by decide)) (ok.glo hg).2 (starEach_cons hs) (star_any (fun e h => by
    have : e = Expr.Name t q := by simpa using h
    subst this; exact hs2))) fun σ H Q q => ?_) (fun _ => rfl) (fun _ _ _ z => by cases z)
  obtain ⟨Z, m, ρ, S, v, S', sr, er, e, k⟩ := rdE_op1 q
  refine ⟨Z, m, ρ, S, v, S', sr, er, e, fun m' H' u p => ?_⟩
  obtain ⟨z, w, r, tk, rr, e1, k1⟩ := k m' H' u p
  exact ⟨z, w, u, r, rfl, tk, rr, e1, k1⟩
theorem mut_sound (ok : XOk X T cf) {m : Str} {k : Mt} {args : List Expr} {ys : Exs} {o : Str} {x : Ex} {p ap cp : Pos} (hm : mtOf m args.length = some k) (ho : PE X (.Name o p) (tE X.K cf x)) (ha : PA X args (tA X.K cf ys)) (hl : ys.len = args.length) (hline : (ap.endLine == cp.line) = true) (hst : ∀ e ∈ args, ∀ a p, e ≠ .Starred a p) :
    SE X cf (.Call (.Attribute (.Name o p) m ap) args [] cp) (.mut k x ys) := by
  refine SE.plain ?_ (fun _ => rfl) (fun _ _ _ z => by cases z)
  have few : ∀ {e : Expr} {es : List Expr}, args = e :: es → args.length ≤ 1 → ((backTo cp (starEach (e :: es) X.env)).all (fun x => !x.1) && (backToKw cp (keywordEach [] X.env)).all (fun x => x.1.isSome) && decide ((e :: es).length + ([] : List Keyword).length + (if ([] : List Keyword).isEmpty then 0 else 1) < 30)) = true := by
    intro e es h1 h2
    subst h1
    have : es = [] := by
      cases es with
      | nil => rfl
      | cons _ _ => simp at h2
    subst this
    rw [starEach_cons (hst e (by simp))]
    rfl
  have bm : ∀ {id : String} {r : V → List V → Hp → VK → Prop}, PySem.Slot "list" m id → typeOf (.builtin id) = pure (.type "method_descriptor") → MtR X id r → args.length = 1 → PE X (.Call (.Attribute (.Name o p) m ap) args [] cp) (tBM X.K "list" r (tE X.K cf x) (tA X.K cf ys)) := by
    intro id r hsl hty hmt h1
    cases args with
    | nil => cases h1
    | cons e es =>
      have h2 : es = [] := by
        cases es with
        | nil => rfl
        | cons _ _ => simp at h1
      subst h2
      exact pe_bm PySem.F.plainAttrs_list hsl hty hmt ho ha rfl (few rfl (by simp)) hline (starEach_cons (hst e (by simp))) rfl
  have bm0 : ∀ {id : String} {r : V → List V → Hp → VK → Prop}, PySem.Slot "list" m id → typeOf (.builtin id) = pure (.type "method_descriptor") → MtR X id r → args.length = 0 → PE X (.Call (.Attribute (.Name o p) m ap) args [] cp) (tBM0 X.K "list" r (tE X.K cf x)) ∧ ys = .nil := by
    intro id r hsl hty hmt h1
    cases args with
    | cons e es => cases h1
    | nil =>
      refine ⟨pe_bm0 PySem.F.plainAttrs_list hsl hty hmt ho rfl hline, ?_⟩
      cases ys with
      | nil => rfl
      | cons _ _ => simp [Exs.len] at hl
  unfold mtOf at hm
  by_cases e : m = "append"
  · subst e
    rw [if_pos rfl] at hm
    split at hm
    · rename_i h1
      cases hm
      exact PE.imp (bm PySem.F.slot_list_append PySem.F.type_list_append mt_append h1) fun σ H Q q => rdE_append q
    · cases hm
  rw [if_neg e] at hm
  by_cases e : m = "pop"
  · subst e
    rw [if_pos rfl] at hm
    split at hm
    · rename_i h1
      cases hm
      obtain ⟨h2, rfl⟩ := bm0 PySem.F.slot_list_pop PySem.F.type_list_pop mt_pop h1
      exact PE.imp h2 fun σ H Q q => rdE_pop q
    · split at hm
      · rename_i h1
        cases hm
        exact PE.imp (bm PySem.F.slot_list_pop PySem.F.type_list_pop mt_popAt h1) fun σ H Q q => rdE_popAt q
      · cases hm
  rw [if_neg e] at hm
  by_cases e : m = "reverse"
  · subst e
    rw [if_pos rfl] at hm
    split at hm
    · rename_i h1
      cases hm
      obtain ⟨h2, rfl⟩ := bm0 PySem.F.slot_list_reverse PySem.F.type_list_reverse mt_reverse h1
      exact PE.imp h2 fun σ H Q q => rdE_reverse q
    · cases hm
  rw [if_neg e] at hm
  cases hm
theorem call_sound (ok : XOk X T cf) {x : Str} {f : Nat} {args : List Expr} {ys : Exs} {p pos : Pos} (hg : T.glo x = true) (hf : T.fx.lookup x = some f) (ha : PA X args (tA X.K cf ys)) (hl : ys.len = args.length) (hst : ∀ e ∈ args, ∀ a p, e ≠ .Starred a p) :
    SE X cf (.Call (.Name x p) args [] pos) (.call f ys) := by
  obtain ⟨k, fa, fd, ps, hr, hm, hk, hb, F, hn⟩ := ok.fns x f hf
  refine SE.plain ?_ (fun _ => rfl) (fun _ _ _ z => by cases z)
  cases args with
  | nil =>
    have : ys = .nil := by
      cases ys with
      | nil => rfl
      | cons _ _ => simp [Exs.len] at hl
    subst this
    refine PE.imp (pe_call0 F hr (ok.glo hg).1 hm hk hb .nil (E := E0) pass0 (ok.glo hg).2) fun σ H Q q => ?_
    exact rdA_nil (rdE_call hn q)
  | cons e es =>
    refine PE.imp (pe_call F hr (ok.glo hg).1 hm hk hb .nil (E := E0) pass0 ha (ok.glo hg).2 (starEach_cons (hst e (by simp))) (star_any fun e' h => hst e' (by simp [h]))) fun σ H Q q => rdE_call hn q
end
end RS

set_option Elab.async false
set_option linter.all false
set_option maxRecDepth 100000
set_option maxHeartbeats 4000000
namespace RS
open PySem PySem.Spec PyProof.Rows L2

section
variable {cf : Nat → List Val → Sto → Out (Val × Sto)}
theorem rC_cst {K : PySem.W.Frag} {σ : L2.St} {H : Hp} {Q : VK} {p : PV} (h : tE K cf (.cst p) σ H Q) : ∀ u, (∀ Z, Rp K Z p u) → Q u H := by
  obtain ⟨Z, m, ρ, S, v, S', sr, er, e, k⟩ := h
  simp only [evalE] at e
  cases e
  intro u hu
  exact k m H u ⟨Stp.refl _ _, sr, hu _⟩
theorem SE.name {X : Cx} {T : TC} (o : XOk X T cf) {x : Str} {i : Nat} {p : Pos} (hv : T.vis x = true) (hi : slotOf T.N x = some i) : SE X cf (.Name x p) (.var i) := by
  obtain ⟨h1, h2, h3⟩ := o.vis hv
  refine SE.plain (PE.imp (pe_var (i := i) (by rw [o.N]; exact slotOf_get hi) h1 h2 h3) fun σ H Q q => ?_) (fun _ => rfl) (fun _ _ _ z => by cases z)
  obtain ⟨Z, m, ρ, S, v, S', sr, er, e, k⟩ := q
  simp only [evalE] at e
  obtain ⟨w, e1, e⟩ := bind_ok e
  cases e
  obtain ⟨u, hu, rv⟩ := er.get e1
  exact ⟨u, hu, k m H u (Rv.post sr rv)⟩
theorem SE.const {X : Cx} {c : Const} {p : PV} {k : Nat} {pos : Pos} (h : trC c = some p) : SE X cf (.Constant c k pos) (.cst p) := by
  cases c <;> simp only [trC] at h <;> cases h
  · exact SE.plain (PE.imp pe_non fun σ H Q q => rC_cst q _ fun _ => by simp only [Rp]) (fun _ => rfl) (fun _ _ _ z => by cases z)
  · exact SE.plain (PE.imp pe_bl fun σ H Q q => rC_cst q _ fun _ => by simp only [Rp]) (fun _ => rfl) (fun _ _ _ z => by cases z)
  · exact SE.plain (PE.imp pe_int fun σ H Q q => rC_cst q _ fun _ => by simp only [Rp]) (fun _ => rfl) (fun _ _ _ z => by cases z)
  · exact SE.plain (PE.imp pe_str fun σ H Q q => rC_cst q _ fun _ => by simp only [Rp]) (fun _ => rfl) (fun _ _ _ z => by cases z)
theorem bopOf_ne {op : Operator} {o : Op2} (h : bopOf op = some o) : o ≠ .idx := by
  intro e; subst e; cases op <;> cases h
theorem pt_ifExp {X : Cx} {c a b : Expr} {pos : Pos} {tc ta tb : TT} (hc : PT X c tc) (ha : PT X a ta) (hb : PT X b tb) : PT X (.IfExp c a b pos) (fun σ H Q => tc σ H fun d H1 => if d = true then ta σ H1 Q else tb σ H1 Q) := by
  refine ⟨fun pins s σ H Q I h => ?_⟩
  refine isTrue_IfExp (thn (hc.run pins s σ H _ I h) fun d s1 ⟨H1, I1, q1⟩ => ?_)
  cases d with
  | true => exact ha.run pins s1 σ H1 Q I1 q1
  | false => exact hb.run pins s1 σ H1 Q I1 q1
theorem trE_sound : ∀ (n : Nat) {X : Cx} {T : TC} (_ : XOk X T cf) {e : Expr} {x : Ex}, trE n T e = some x → SE X cf e x := by
  intro n
  induction n with
  | zero => intro X T o e x h; simp [trE] at h
  | succ n ih =>
    intro X T o e x h
    have ih' : ∀ {e : Expr} {x : Ex}, trE n T e = some x → SE X cf e x := fun h => ih o h
    unfold trE at h
    split at h
    · -- Name
      split at h
      · rename_i hv
        obtain ⟨i, h1, rfl⟩ := Option.map_eq_some_iff.mp h
        exact SE.name o hv h1
      · cases h
    · -- Constant
      obtain ⟨p, h1, rfl⟩ := Option.map_eq_some_iff.mp h
      exact SE.const h1
    · -- Tuple
      obtain ⟨es, h1, rfl⟩ := Option.map_eq_some_iff.mp h
      exact SE.plain (PE.imp (pe_tup (pa_of ih' h1)) fun σ H Q q => rdE_tup q) (fun _ => rfl) (fun _ _ _ z => by cases z)
    · -- List
      obtain ⟨es, h1, rfl⟩ := Option.map_eq_some_iff.mp h
      exact SE.plain (PE.imp (pe_lst (pa_of ih' h1)) fun σ H Q q => rdE_lst q) (fun _ => rfl) (fun _ _ _ z => by cases z)
    · -- BinOp
      simp only [Option.bind_eq_bind, Option.bind_eq_some_iff, Option.some.injEq] at h
      obtain ⟨op, h1, y, h2, z, h3, rfl⟩ := h
      exact SE.plain (PE.imp (pe_op (op_binS h1) (ih' h2).pe (ih' h3).pe) fun σ H Q q => rdE_op2 (bopOf_ne h1) q) (fun _ => rfl) (fun _ _ _ z => by cases z)
    · -- UnaryOp
      simp only [Option.bind_eq_bind, Option.bind_eq_some_iff] at h
      obtain ⟨y, h1, h⟩ := h
      split at h
      · cases h
        refine ⟨PE.imp (pe_notT (ih' h1).pe) fun σ H Q q => ?_, PT.imp (pt_not (ih' h1).pt) fun σ H Q q => rdT_not q, fun _ _ _ z => by cases z⟩
        obtain ⟨Z, m, ρ, S, v, S', sr, er, e, k⟩ := rdE_op1 q
        refine ⟨Z, m, ρ, S, v, S', sr, er, e, fun m' H' u p => ?_⟩
        obtain ⟨z, w, r, tk, rr, e1, k1⟩ := k m' H' u p
        simp only [op1] at e1
        split at e1
        · rename_i ht
          cases e1
          exact ⟨_, truV_of rr ht, k1 _ _ newV_bl⟩
        · cases e1
      · cases h
        refine SE.plain (PE.imp (pe_un un_neg (ih' h1).pe) fun σ H Q q => ?_) (fun _ => rfl) (fun _ _ _ z => by cases z)
        obtain ⟨Z, m, ρ, S, v, S', sr, er, e, k⟩ := rdE_op1 q
        refine ⟨Z, m, ρ, S, v, S', sr, er, e, fun m' H' u p => ?_⟩
        obtain ⟨z, w, r, tk, rr, e1, k1⟩ := k m' H' u p
        cases w <;> simp only [op1] at e1 <;> cases e1
        cases rr.int
        exact ⟨_, rfl, k1 _ _ newV_int⟩
      · cases h
    · -- BoolOp
      rename_i op a rest pos
      simp only [Option.bind_eq_bind, Option.bind_eq_some_iff] at h
      obtain ⟨y, h1, h⟩ := h
      split at h
      · cases h
        refine ⟨pe_one (ih' h1).pe, ?_, fun _ _ _ z => ?_⟩
        · cases op
          · exact (pw_and1 (ih' h1).pt).pt
          · exact (pw_or1 (ih' h1).pt).pt
        · cases z
          cases op
          · exact pw_and1 (ih' h1).pt
          · exact pw_or1 (ih' h1).pt
      · simp only [Option.bind_eq_some_iff] at h
        obtain ⟨z, h2, h⟩ := h
        have s2 := ih' h2
        have w2 := s2.pw _ _ _ rfl
        cases op with
        | And =>
          cases h
          have pw : PW X (.BoolOp .And (a :: _ :: _) pos) (tT X.K cf (.and y z)) := ⟨fun wh pins s σ H Q I q => (pw_and (ih' h1).pt w2).run wh pins s σ H Q I (rdT_and q)⟩
          exact ⟨PE.imp (pe_andT (ih' h1).pe s2.pe) fun σ H Q q => rdE_and q, pw.pt, fun _ _ _ z => by cases z; exact pw⟩
        | Or =>
          cases h
          have pw : PW X (.BoolOp .Or (a :: _ :: _) pos) (tT X.K cf (.or y z)) := ⟨fun wh pins s σ H Q I q => (pw_or (ih' h1).pt w2).run wh pins s σ H Q I (rdT_or q)⟩
          exact ⟨PE.imp (pe_orT (ih' h1).pe s2.pe) fun σ H Q q => rdE_or q, pw.pt, fun _ _ _ z => by cases z; exact pw⟩
    · -- Compare
      rename_i a op b pos
      simp only [Option.bind_eq_bind, Option.bind_eq_some_iff] at h
      obtain ⟨y, h1, h⟩ := h
      split at h
      · rename_i hn
        have hb : ∃ k p, b = .Constant .none k p := by
          unfold isNone' at hn
          split at hn
          · exact ⟨_, _, rfl⟩
          · cases hn
        obtain ⟨k, p, rfl⟩ := hb
        split at h
        · cases h
          have pe : PE X (.Compare a [.Is] [.Constant .none k p] pos) (tE X.K cf (.op1 .isNon y)) := PE.imp (pe_cmp (pc_isN (ih' h1).pe) rfl) fun σ H Q q => by
            obtain ⟨Z, m, ρ, S, v, S', sr, er, e, k⟩ := rdE_op1 q
            refine ⟨Z, m, ρ, S, v, S', sr, er, e, fun m' H' u p => ?_⟩
            obtain ⟨z, w, r, tk, rr, e1, k1⟩ := k m' H' u p
            simp only [op1] at e1
            cases e1
            have := k1 _ _ newV_bl
            rw [← isNon_of rr] at this
            exact this
          refine ⟨pe, ?_, fun _ _ _ z => by cases z⟩
          refine PT.imp (pt_cmp (pc_isN (ih' h1).pe) rfl) fun σ H Q q => ?_
          have q1 := tT_tE (fun ρ S v S' e => isNon_val ρ S v S' (.inl rfl) e) q
          obtain ⟨Z, m, ρ, S, v, S', sr, er, e, k⟩ := rdE_op1 q1
          refine ⟨Z, m, ρ, S, v, S', sr, er, e, fun m' H' u p => ?_⟩
          obtain ⟨z, w, r, tk, rr, e1, k1⟩ := k m' H' u p
          simp only [op1] at e1
          cases e1
          obtain ⟨kk, e2, k2⟩ := k1 _ _ newV_bl
          cases e2
          exact ⟨_, rfl, by rw [isNon_of rr]; exact k2⟩
        · cases h
          have pe : PE X (.Compare a [.IsNot] [.Constant .none k p] pos) (tE X.K cf (.op1 .notNon y)) := PE.imp (pe_cmp (pc_notN (ih' h1).pe) rfl) fun σ H Q q => by
            obtain ⟨Z, m, ρ, S, v, S', sr, er, e, k⟩ := rdE_op1 q
            refine ⟨Z, m, ρ, S, v, S', sr, er, e, fun m' H' u p => ?_⟩
            obtain ⟨z, w, r, tk, rr, e1, k1⟩ := k m' H' u p
            simp only [op1] at e1
            cases e1
            have := k1 _ _ newV_bl
            show Q (.bl (!decide (u = .non))) H'
            rw [isNon_of rr]
            exact this
          refine ⟨pe, ?_, fun _ _ _ z => by cases z⟩
          refine PT.imp (pt_cmp (pc_notN (ih' h1).pe) rfl) fun σ H Q q => ?_
          have q1 := tT_tE (fun ρ S v S' e => isNon_val ρ S v S' (.inr rfl) e) q
          obtain ⟨Z, m, ρ, S, v, S', sr, er, e, k⟩ := rdE_op1 q1
          refine ⟨Z, m, ρ, S, v, S', sr, er, e, fun m' H' u p => ?_⟩
          obtain ⟨z, w, r, tk, rr, e1, k1⟩ := k m' H' u p
          simp only [op1] at e1
          cases e1
          obtain ⟨kk, e2, k2⟩ := k1 _ _ newV_bl
          cases e2
          refine ⟨_, rfl, ?_⟩
          rw [isNon_of rr]
          exact k2
        · cases h
      · split at h
        · cases h
        · rename_i hs
          simp only [Option.bind_eq_some_iff, Option.some.injEq] at h
          obtain ⟨op', h2, z, h3, rfl⟩ := h
          have hb := behind_of (op := op) (Bool.eq_false_iff.mpr hs)
          have hne := cmp_ne (copOf_cmp h2)
          refine ⟨PE.imp (pe_cmpR (op_cmpS o.room.units h2) (ih' h1).pe (ih' h3).pe hb) fun σ H Q q => rdE_op2 hne q, ?_, fun _ _ _ z => by cases z⟩
          exact PT.imp (pt_cmpR (op_cmpS o.room.units h2) (ih' h1).pe (ih' h3).pe hb) fun σ H Q q => rdE_op2 hne (tT_tE (cmp_val (copOf_cmp h2)) q)
    · -- chain
      rename_i a op op' b c pos
      simp only [Option.bind_eq_bind, Option.bind_eq_some_iff] at h
      obtain ⟨o1, h1, o2, h2, y, h3, z, h4, w, h5, h⟩ := h
      split at h
      · cases h
      · rename_i hs
        cases h
        have hb := behind_of (op := op') (Bool.eq_false_iff.mpr hs)
        have hl : lastMarks [op, op'] [b, c] = false := hb
        have n1 := cmp_ne (copOf_cmp h1)
        have n2 := cmp_ne (copOf_cmp h2)
        refine ⟨PE.imp (pe_chain (op_cmpS o.room.units h1) (op_cmpS o.room.units h2) (ih' h3).pe (ih' h4).pe (ih' h5).pe hl) fun σ H Q q => rdE_chain n1 n2 q, ?_, fun _ _ _ z => by cases z⟩
        exact PT.imp (pt_chain (op_cmpS o.room.units h1) (op_cmpS o.room.units h2) (ih' h3).pe (ih' h4).pe (ih' h5).pe hl) fun σ H Q q => rdE_chain n1 n2 (tT_tE (chain_val (copOf_cmp h2)) q)
    · -- IfExp
      simp only [Option.bind_eq_bind, Option.bind_eq_some_iff, Option.some.injEq] at h
      obtain ⟨y, h1, z, h2, w, h3, rfl⟩ := h
      refine ⟨PE.imp (pe_ifExp (ih' h1).pt (ih' h2).pe (ih' h3).pe) fun σ H Q q => rdE_ite q, PT.imp (pt_ifExp (ih' h1).pt (ih' h2).pt (ih' h3).pt) fun σ H Q q => rdT_ite q, fun _ _ _ z => by cases z⟩
    · -- slice
      simp only [Option.bind_eq_bind, Option.bind_eq_some_iff, Option.some.injEq] at h
      obtain ⟨y, h1, l, h2, u, h3, rfl⟩ := h
      obtain ⟨tl, pl, il⟩ := po_of ih' h2
      obtain ⟨tu, pu, iu⟩ := po_of ih' h3
      exact SE.plain (PE.imp (pe_slice sl_S (ih' h1).pe (PO.imp pl il) (PO.imp pu iu)) fun σ H Q q => rdE_slc q) (fun _ => rfl) (fun _ _ _ z => by cases z)
    · -- subscript
      simp only [Option.bind_eq_bind, Option.bind_eq_some_iff, Option.some.injEq] at h
      obtain ⟨y, h1, z, h2, rfl⟩ := h
      exact SE.plain (PE.imp (pe_ix ix_S (ih' h1).pe (ih' h2).pe (plainIx_of (trE_notSlice h2))) fun σ H Q q => rdE_idx q) (fun _ => rfl) (fun _ _ _ z => by cases z)
    · -- ListComp
      obtain ⟨c, h1, rfl⟩ := Option.map_eq_some_iff.mp h
      obtain ⟨p1, p2, p3, p4, p5, p6, p7, p8⟩ := cmp_sound o (fun o' h' => ih o' h') h1
      refine SE.plain (PE.imp (pe_lc o.calm o.nd p1 p2 p4 p5 p6 p7) fun σ H Q q => ?_) (fun _ => rfl) (fun _ _ _ z => by cases z)
      rw [← p3]
      exact rd_comp p8 q
    · -- Call
      rename_i x p args pos
      split at h
      · rename_i hg
        split at h
        · rename_i f hf
          obtain ⟨es, h1, rfl⟩ := Option.map_eq_some_iff.mp h
          exact call_sound o hg hf (pa_of ih' h1) (trL_len h1) (trL_notStar h1)
        · rename_i hf
          split at h
          · simp only [Option.bind_eq_bind, Option.bind_eq_some_iff, Option.some.injEq] at h
            obtain ⟨op, h1, y, h2, rfl⟩ := h
            exact blt1_sound o h1 hg hf (ih' h2).pe (trE_notStar h2)
          · split at h
            · rename_i hx
              subst hx
              split at h
              · simp only [Option.bind_eq_bind, Option.bind_eq_some_iff] at h
                obtain ⟨y, h1, ty, h2, h⟩ := h
                split at h
                · rename_i ht
                  cases h
                  simp only [Bool.and_eq_true, Option.isNone_iff_eq_none] at ht
                  exact isi_sound o hg hf (ih' h1).pe (trE_notStar h1) h2 ht.1 ht.2
                · cases h
              · cases h
            · simp only [Option.bind_eq_bind, Option.bind_eq_some_iff, Option.some.injEq] at h
              obtain ⟨op, h1, y, h2, z, h3, rfl⟩ := h
              exact blt2_sound o h1 hg hf (ih' h2).pe (trE_notStar h2) (ih' h3).pe (trE_notStar h3)
          · cases h
      · cases h
    · -- method
      split at h
      · rename_i hl
        simp only [Option.bind_eq_bind, Option.bind_eq_some_iff, Option.some.injEq] at h
        obtain ⟨k, h1, y, h2, ys, h3, rfl⟩ := h
        exact mut_sound o h1 (ih' h2).pe (pa_of ih' h3) (trL_len h3) hl (trL_notStar h3)
      · cases h
    · cases h
end
end RS

set_option Elab.async false
set_option linter.all false
set_option maxRecDepth 100000
set_option maxHeartbeats 4000000
namespace RS
open PySem PySem.Spec PyProof.Rows L2

/-! ### t += u -/
theorem noI_tuple_add : typeLookup (.type "tuple") (dunderI "add") = pure none := by rw [typeLookup_type, builtinLookup_eq_fast]; kernel_rfl
section
variable {prog : Program} {w : World} {A : Around} {E : Value → Shared → Prop} {s : Shared}
theorem icat_tup {t b : Addr} {vs ws : List Value} {Q : Value → Shared → Prop} (ht : IsTup s.heap t vs.toArray) (hb : IsTup s.heap b ws.toArray) (h0 : vs = [] → Q (.ref b) s)
    (h1 : vs ≠ [] → ws = [] → Q (.ref t) s) (h2 : vs ≠ [] → ws ≠ [] → Q (.ref s.heap.objs.size) { s with heap := s.heap.push { cls := .type "tuple", data := .seq (vs ++ ws).toArray } })
    (hsz : vs.length + ws.length ≤ sizeLine) : wpAny (model prog w) A (inplaceOp .Add (.ref t) (.ref b)) Q E s := by
  obtain ⟨⟨cls, dd, data, sl⟩, ho, hc, n, hd⟩ := id ht
  obtain ⟨⟨cls2, dd2, data2, sl2⟩, ho2, hc2, n2, hd2⟩ := id hb
  simp only at hc hd hc2 hd2
  subst hc hd hc2 hd2
  have e : vs.toArray ++ ws.toArray = (vs ++ ws).toArray := by simp
  refine wpAny_inplaceOp_concat ⟨_, ho, rfl⟩ ⟨_, ho2, rfl⟩ noI_tuple_add noFill_tuple_add seq_tuple_add ?_
  by_cases hv : vs = []
  · subst hv
    exact call_meets PySem.F.slot_tuple_add ⟨_, ho, rfl⟩ PySem.F.entry_tuple_add (PySem.F.args_tuple_add_2 _ _) (tuple_addW0 t b ([] : List Value).toArray ws.toArray n n2 dd dd2 sl sl2 (by simp)) ⟨ho, ho2, h0 rfl⟩
  by_cases hw : ws = []
  · exact call_meets PySem.F.slot_tuple_add ⟨_, ho, rfl⟩ PySem.F.entry_tuple_add (PySem.F.args_tuple_add_2 _ _)
      (tuple_addW1 t b vs.toArray ws.toArray n n2 dd dd2 sl sl2 (by simpa using hv) (by simp [hw])) ⟨ho, ho2, h1 hv hw⟩
  · refine call_meets PySem.F.slot_tuple_add ⟨_, ho, rfl⟩ PySem.F.entry_tuple_add (PySem.F.args_tuple_add_2 _ _)
      (tuple_addW2 t b vs.toArray ws.toArray n n2 dd dd2 sl sl2 (by simpa using hv) (by simpa using hw) (by rw [List.size_toArray, List.size_toArray]; exact hsz)) ⟨ho, ho2, ?_⟩
    rw [e]
    exact h2 hv hw
end
section
variable {X : Cx}
theorem iop_addS : OpR X (inplaceOp .Add) (rOp X.K (fun p q => match op2 .add p q with | some (.lst _) => none | r => r)) := by
  intro pins s σ H x y v u Q I rx ry h
  obtain ⟨m, p, q, r, sr, rp, rq, e, k⟩ := h
  simp only [op2] at e
  cases p <;> cases q <;> simp only [opAdd] at e <;> (try (cases e; done))
  · cases e
    cases rp.int
    cases rq.int
    exact iop_add pins s σ H _ _ v u Q I rx ry ⟨_, _, rfl, rfl, k _ _ newV_int⟩
  · rename_i a b
    by_cases hl : a.cps.size + b.cps.size ≤ line
    · rw [if_pos hl] at e
      cases e
      cases rp.str
      cases rq.str
      exact iop_add_str pins s σ H _ _ v u Q I rx ry ⟨_, _, rfl, rfl, by rw [← line_eq]; exact hl, k _ _ newV_str⟩
    · rw [if_neg hl] at e
      cases e
  · rename_i xs ys
    by_cases hl : xs.length + ys.length ≤ line
    · rw [if_pos hl] at e
      cases e
      obtain ⟨a, us, rfl, s1, r1⟩ := rp.tup
      obtain ⟨b, vs, rfl, s2, r2⟩ := rq.tup
      cases rx
      cases ry
      obtain ⟨its, w1, p1, _⟩ := I.tuple s1
      obtain ⟨its2, w2, p2, _⟩ := I.tuple s2
      have e0 : ∀ {zs : List PV} {H0 : Hp}, Rps X.K H0 zs [] → zs = [] := fun {zs H0} h => by
        have := h.length
        exact List.eq_nil_of_length_eq_zero this.symm
      refine icat_tup p1 p2 (fun z => ?_) (fun _ z => ?_) (fun _ _ => ?_) (by rw [← w1.length, ← w2.length, r1.length, r2.length, ← line_eq]; exact hl)
      · have : us = [] := w1.nil_iff.mp z
        subst this
        have := e0 r1
        subst this
        exact ⟨.ref b, H, I, rfl, k _ _ ⟨Le.refl _, rq⟩⟩
      · have : vs = [] := w2.nil_iff.mp z
        subst this
        have := e0 r2
        subst this
        rw [List.append_nil] at k
        exact ⟨.ref a, H, I, rfl, k _ _ ⟨Le.refl _, rp⟩⟩
      · have hz : (us ++ vs).length ≤ sizeLine := by rw [List.length_append, r1.length, r2.length, ← line_eq]; exact hl
        refine ⟨.ref s.heap.objs.size, _, I.laid (t' := s.toks) (o := .tup (us ++ vs)) (fun b ob q => Heap.get?_push_of_some _ q) (Nat.le_refl _) ?_, rfl, k _ _ (NewV.tup sr (I.hok.fresh (Nat.le_refl _)) (r1.append r2))⟩
        exact ⟨hz, _, w1.append w2, IsTup.new _ _⟩
    · rw [if_neg hl] at e
      cases e
  · rename_i xs ys
    by_cases hl : xs.length + ys.length ≤ line
    · rw [if_pos hl] at e
      cases e
    · rw [if_neg hl] at e
      cases e
theorem iop_subS : OpR X (inplaceOp .Sub) (rOp X.K (op2 .sub)) := by
  intro pins s σ H x y v u Q I rx ry h
  obtain ⟨m, p, q, r, sr, rp, rq, e, k⟩ := h
  cases p <;> cases q <;> simp only [op2] at e <;> cases e
  cases rp.int
  cases rq.int
  exact iop_sub pins s σ H _ _ v u Q I rx ry ⟨_, _, rfl, rfl, k _ _ newV_int⟩
end
def iopOf : Operator → Option Op2
  | .Add => some .add
  | .Sub => some .sub
  | _ => none

/-! ### statements -/
def isComp : Expr → Bool
  | .ListComp .. => true
  | .SetComp .. => true
  | .DictComp .. => true
  | _ => false
def isFresh : Expr → Bool
  | .List .. => true
  | .ListComp .. => true
  | .Call .. => true
  | _ => false
def isTupD : Expr → Bool
  | .Tuple .. => true
  | _ => false
/-- a value that is to be kept as a list that changes -/
def boxIf (b : Bool) (e : Expr) (x : Ex) : Ex := if b && isFresh e then .box x else x
def namesOf : List Expr → List (Option Str)
  | [] => []
  | .Name x _ :: r => some x :: namesOf r
  | _ :: r => none :: namesOf r
/-- the values of a tuple, some of them boxed -/
def trPar (f : Expr → Option Ex) (B : List Str) : List (Option Str) → List Expr → Option Exs
  | [], [] => some .nil
  | n :: ns, e :: es => do
    let x ← f e
    let xs ← trPar f B ns es
    some (.cons (boxIf (match n with | some y => B.contains y | none => false) e x) xs)
  | _, _ => none
/-- does a, b = x, y build its tuple and take it apart -/
def swNone (T : TC) (ts vs : List Expr) : Bool :=
  !(ts.length == 2 || ts.length == 3) || vs.all (foldedForSure 8) ||
    !(ts.all fun | .Name x p => (T.sc.names.lookup x == some .local) && p.line == (ts.head?.map (·.pos.line)).getD 0 | _ => false)
def swNames (T : TC) (ts vs : List Expr) : Bool :=
  (ts.length == 2 || ts.length == 3) && !(vs.all (foldedForSure 8)) && !(vs.all (constantsAlone 8)) &&
    (ts.all fun | .Name x p => (T.sc.names.lookup x == some .local) && p.line == (ts.head?.map (·.pos.line)).getD 0 | _ => false) &&
    ((ts.filterMap fun | .Name x _ => some x | _ => none).eraseDups.length == ts.length)
def swB (T : TC) (x : Str) (px : Pos) : Expr → Bool
  | .ListComp _ _ scope pos => (T.sc.names.lookup x == some .local) && (px.line == pos.line) && !(scope.names.any fun (n, k) => n == x && (k == .local || k == .cell))
  | _ => false
def trS (B : List Str) : Nat → TC → Stmt → Option Stm
  | 0, _, _ => none
  | n + 1, T, s =>
    let blk : List Stmt → Option Blk := fun ss => ss.foldr (fun s r => do
      let x ← trS B n T s
      let y ← r
      some (.cons x y)) (some .nil)
    match s with
    | .Assign [.Name x px] e _ => if T.loc x then do
        let i ← slotOf T.N x
        let y ← trE 40 T e
        some (.set (.name i) (boxIf (B.contains x) e y))
      else none
    | .Assign [.Tuple ts _ _] (.Tuple vs _ _) _ =>
      if ts.length == vs.length && decide (ts.length ≤ 100) then do
        let is ← trTs T ts
        let ys ← trPar (trE 40 T) B (namesOf ts) vs
        if swNone T ts vs || swNames T ts vs then some (.par is ys) else none
      else none
    | .Assign [.Tuple ts _ _] e _ => if isTupD e || isComp e then none else do
        let is ← trTs T ts
        let y ← trE 40 T e
        some (.set (.tup is) y)
    | .Assign [.Subscript (.Name o p) i _] e _ => if isComp e then none else do
        let y ← trE 40 T e
        let a ← trE 40 T (.Name o p)
        let k ← trE 40 T i
        match i with
        | .Slice .. => none
        | _ => some (.seti a k y)
    | .AugAssign (.Name x _) op e _ => if T.loc x then do
        let i ← slotOf T.N x
        let o ← iopOf op
        let y ← trE 40 T e
        some (.aug i o y)
      else none
    | .Expr e _ => if isComp e then none else (match e with
      | .Constant (.str _) _ _ => some .pass
      | e => (trE 40 T e).map .exp)
    | .Return (some e) _ => (trE 40 T e).map .ret
    | .Return none _ => some .retN
    | .If c a b _ => do
      let x ← trE 40 T c
      let y ← blk a
      let z ← blk b
      some (.ifs x y z)
    | .While c b [] _ => do
      let x ← trE 40 T c
      let y ← blk b
      some (.whl x y)
    | .For t it b [] _ => do
      let t' ← trT T t
      let i ← trIt (trE 40 T) T it
      let y ← blk b
      some (.for_ t' i y)
    | .Pass _ => some .pass
    | .Break _ => some .brk
    | .Continue _ => some .cont
    | _ => none
end RS

set_option Elab.async false
set_option linter.all false
set_option maxRecDepth 100000
set_option maxHeartbeats 4000000
namespace RS
open PySem PySem.Spec PyProof.Rows L2

section
variable (K : PySem.W.Frag) (cf : Nat → List Val → Sto → Out (Val × Sto))
/-- what is wanted behind a statement that ended so -/
def Fin' (Z m : List Addr) (H : Hp) (D : Ends) (fl : Flow) (ρ' : Env) (S' : Sto) : Prop :=
  match fl with
  | .nx => ∀ m' σ' H', Stp m H m' H' → SR K Z m' S' H' → ER K Z m' H' ρ' σ' → D.nx σ' H'
  | .bk => ∀ m' σ' H', Stp m H m' H' → SR K Z m' S' H' → ER K Z m' H' ρ' σ' → D.bk σ' H'
  | .ct => ∀ m' σ' H', Stp m H m' H' → SR K Z m' S' H' → ER K Z m' H' ρ' σ' → D.ct σ' H'
  | .rt v => ∀ m' H' u, Post K Z m H v S' u m' H' → D.rt u H'
def tS (s : Stm) : TS := fun D σ H => ∃ Z m ρ S fl ρ' S', SR K Z m S H ∧ ER K Z m H ρ σ ∧ evalS cf s ρ S = .ok (fl, ρ', S') ∧ Fin' K Z m H D fl ρ' S'
def tB (b : Blk) : TS := fun D σ H => ∃ Z m ρ S fl ρ' S', SR K Z m S H ∧ ER K Z m H ρ σ ∧ evalB cf b ρ S = .ok (fl, ρ', S') ∧ Fin' K Z m H D fl ρ' S'
end
section
variable {K : PySem.W.Frag} {cf : Nat → List Val → Sto → Out (Val × Sto)} {σ : L2.St} {H : Hp} {D : Ends} {a e : Ex}
theorem Fin'.after {Z m m1 : List Addr} {H1 : Hp} {fl : Flow} {ρ' : Env} {S' : Sto} (s : Stp m H m1 H1) (h : Fin' K Z m H D fl ρ' S') : Fin' K Z m1 H1 D fl ρ' S' := by
  cases fl with
  | nx => exact fun m' σ' H' s' r e => h m' σ' H' (s.trans s') r e
  | bk => exact fun m' σ' H' s' r e => h m' σ' H' (s.trans s') r e
  | ct => exact fun m' σ' H' s' r e => h m' σ' H' (s.trans s') r e
  | rt v => exact fun m' H' u p => h m' H' u (Post.after s p)
theorem rdS_set {t : Tg} (h : tS K cf (.set t e) D σ H) : tAsg (tE K cf e) (gTg K t) D σ H := by
  obtain ⟨Z, m, ρ, S, fl, ρ', S', sr, er, e1, k⟩ := h
  simp only [evalS] at e1
  obtain ⟨⟨v, S1⟩, e2, e1⟩ := bind_ok e1
  obtain ⟨ρ1, e3, e1⟩ := bind_ok e1
  cases e1
  refine ⟨Z, m, ρ, S, v, S1, sr, er, e2, fun m1 H1 u1 p1 => ?_⟩
  have n1 := p1.norm
  exact g_tg (er.stp n1.stp) n1.rv e3 fun σ' er' _ => k m1 σ' H1 n1.stp n1.sr er'
theorem g_namesV {Z m : List Addr} {R : L2.St → Hp → Prop} : ∀ {is : List Nat} {vs : List Val} {us : List V} {ρ : Env} {σ : L2.St}, vs.length = is.length → Rvs K Z m H vs us → ER K Z m H ρ σ → (∀ σ', ER K Z m H (setvs is vs ρ) σ' → R σ' H) → gNames is us σ H R
  | [], vs, us, ρ, σ, l, r, e, k => by
    cases vs with
    | cons _ _ => simp at l
    | nil =>
      simp only [Rvs] at r
      subst r
      exact ⟨rfl, k σ e⟩
  | i :: is, vs, us, ρ, σ, l, r, e, k => by
    cases vs with
    | nil => simp at l
    | cons v vs =>
      simp only [Rvs] at r
      obtain ⟨u, w, rfl, r1, r2⟩ := r
      refine ⟨u, w, rfl, ?_⟩
      exact g_namesV (vs := vs) (by simpa using l) r2 (ER.set e r1) fun σ' e' => k σ' (by simpa [setvs] using e')
theorem rdS_par {is : List Nat} {es : Exs} (hl : is.length ≤ line) (h : tS K cf (.par is es) D σ H) : tAsg (tTup (tA K cf es)) (gTup K is.length (gNames is)) D σ H := by
  obtain ⟨Z, m, ρ, S, fl, ρ', S', sr, er, e1, k⟩ := h
  simp only [evalS] at e1
  obtain ⟨⟨vs, S1⟩, e2, e1⟩ := bind_ok e1
  dsimp only at e1
  split at e1
  · rename_i hvs
    cases e1
    refine ⟨Z, m, ρ, S, vs, _, sr, er, e2, fun m1 H1 us s1 r1 rv => ?_⟩
    have hus : us.length = is.length := by rw [rv.length]; exact hvs
    refine ⟨by rw [hus, ← line_eq]; exact hl, fun p hp => ?_⟩
    have s2 : Stp m1 H1 m1 (upd H1 p (.tup us)) := Stp.of_le (Le.upd hp)
    refine ⟨p, us, rfl, .inl (.inl upd_same), hus, ?_⟩
    exact g_namesV hvs (rv.stp s2) ((er.stp s1).stp s2) fun σ' er' => k m1 σ' _ (s1.trans s2) (r1.le (Le.upd hp)) er'
  · cases e1
theorem rdS_par2 {i j : Nat} {es : Exs} (h : tS K cf (.par [i, j] es) D σ H) : tPar i j (tA K cf es) D σ H := by
  obtain ⟨Z, m, ρ, S, fl, ρ', S', sr, er, e1, k⟩ := h
  simp only [evalS] at e1
  obtain ⟨⟨vs, S1⟩, e2, e1⟩ := bind_ok e1
  dsimp only at e1
  split at e1
  · rename_i hvs
    cases e1
    refine ⟨Z, m, ρ, S, vs, _, sr, er, e2, fun m1 H1 us s1 r1 rv => ?_⟩
    match vs, hvs with
    | [v, w], _ =>
      simp only [Rvs] at rv
      obtain ⟨u1, _, rfl, r1', u2, _, rfl, r2', rfl⟩ := rv
      refine ⟨u1, u2, rfl, k m1 _ H1 s1 r1 ?_⟩
      exact ((er.stp s1).set r1').set r2'
  · cases e1
theorem rdS_par3 {i j l : Nat} {es : Exs} (h : tS K cf (.par [i, j, l] es) D σ H) : tPar3 i j l (tA K cf es) D σ H := by
  obtain ⟨Z, m, ρ, S, fl, ρ', S', sr, er, e1, k⟩ := h
  simp only [evalS] at e1
  obtain ⟨⟨vs, S1⟩, e2, e1⟩ := bind_ok e1
  dsimp only at e1
  split at e1
  · rename_i hvs
    cases e1
    refine ⟨Z, m, ρ, S, vs, _, sr, er, e2, fun m1 H1 us s1 r1 rv => ?_⟩
    match vs, hvs with
    | [v, w, x], _ =>
      simp only [Rvs] at rv
      obtain ⟨u1, _, rfl, r1', u2, _, rfl, r2', u3, _, rfl, r3', rfl⟩ := rv
      refine ⟨u1, u2, u3, rfl, k m1 _ H1 s1 r1 ?_⟩
      exact (((er.stp s1).set r1').set r2').set r3'
  · cases e1
/-- x += e -/
def rAug (K : PySem.W.Frag) (o : Op2) : TIp := fun x y H Q => rOp K (fun p q => match op2 o p q with | some (.lst _) => none | r => r) x y H Q ∨ (o = .add ∧ rExt2 x y H Q)
theorem rdS_aug {i : Nat} {o : Op2} (h : tS K cf (.aug i o e) D σ H) : tAug i (tE K cf e) (rAug K o) D σ H := by
  obtain ⟨Z, m, ρ, S, fl, ρ', S', sr, er, e1, k⟩ := h
  simp only [evalS] at e1
  obtain ⟨v, e0, e1⟩ := bind_ok e1
  obtain ⟨⟨u, S1⟩, e2, e1⟩ := bind_ok e1
  obtain ⟨x, hx, rx⟩ := er.get e0
  refine ⟨x, hx, Z, m, ρ, S, u, S1, sr, er, e2, fun m1 H1 u1 p1 => ?_⟩
  have n1 := p1.norm
  cases v with
  | pv p =>
    dsimp only at e1
    obtain ⟨q, e3, e1⟩ := bind_ok e1
    obtain ⟨r, e4, e1⟩ := bind_ok e1
    have e4 := ofO_ok e4
    have rp : Rr K (Z ++ m1) H1 p x := Rr.of (rx.stp n1.stp)
    have rq := n1.rv.read (v := u) n1.sr e3
    have fin : ∀ {r' : PV}, (∀ l, r' ≠ .lst l) → r = r' → Out.ok (Flow.nx, ρ.set i (some (.pv r')), S1) = Out.ok (fl, ρ', S') → rAug K o x u1 H1 fun z H2 => D.nx (σ.set i (some z)) H2 := by
      intro r' hr er' e1
      subst er'
      cases e1
      refine .inl ⟨Z ++ m1, p, q, r, n1.sr.tk, rp, rq, ?_, fun z H2 nv => ?_⟩
      · dsimp only
        rw [e4]
        cases r <;> first | rfl | exact absurd rfl (hr _)
      · have := nv.post n1.sr
        have hp : Stp m1 H1 m1 H2 ∧ SR K Z m1 S' H2 ∧ Rv K Z m1 H2 (.pv r) z := by
          cases r <;> first | exact this | exact absurd rfl (hr _)
        exact k m1 _ H2 (n1.stp.trans hp.1) hp.2.1 (((er.stp n1.stp).stp hp.1).set hp.2.2)
    cases r with
    | lst l => cases e1
    | non => exact fin (fun _ z => by cases z) rfl e1
    | bl b => exact fin (fun _ z => by cases z) rfl e1
    | int b => exact fin (fun _ z => by cases z) rfl e1
    | str b => exact fin (fun _ z => by cases z) rfl e1
    | tup b => exact fin (fun _ z => by cases z) rfl e1
    | scr b => exact fin (fun _ z => by cases z) rfl e1
  | loc l =>
    dsimp only at e1
    have ext : ∀ {xs ys : List PV}, S1[l]? = some (.lst xs) → Rp K (hide (Z ++ m1) H1) (.lst ys) u1 → (if o = .add ∧ xs.length + ys.length ≤ line then Out.ok (Flow.nx, ρ, S1.set l (.lst (xs ++ ys))) else Out.bad) = Out.ok (fl, ρ', S') → rAug K o x u1 H1 fun z H2 => D.nx (σ.set i (some z)) H2 := by
      intro xs ys hl hy e1
      split at e1
      · rename_i hc
        cases e1
        obtain ⟨p, us, rfl, h1, h2, h3, h4⟩ := loc_at n1.sr (rx.stp n1.stp) hl
        simp only [Rp] at hy
        obtain ⟨b, ws, rfl, h5, h6⟩ := hy
        refine .inr ⟨hc.1, p, b, us, ws, rfl, rfl, h3, (hide_le _ _) _ _ h5, by rw [h4.length, h6.length, ← line_eq]; exact hc.2, ?_⟩
        have st : Stp m1 H1 m1 (upd H1 p (.lst (us ++ ws))) := Stp.upd h2
        refine k m1 _ _ (n1.stp.trans st) (n1.sr.upd h1 (h4.append h6)) ?_
        have er2 := (er.stp n1.stp).stp st
        refine ⟨by simp [er2.1], fun j w hw => ?_⟩
        obtain ⟨z, hz, rz⟩ := er2.2 j w hw
        by_cases hj : i = j
        · subst hj
          rw [hx] at hz
          cases hz
          have : i < σ.length := (List.getElem?_eq_some_iff.mp hx).1
          exact ⟨_, List.getElem?_set_self this, rz⟩
        · exact ⟨z, by rw [List.getElem?_set_ne hj]; exact hz, rz⟩
      · cases e1
    split at e1
    · exact ext (by assumption) n1.rv e1
    · exact ext (by assumption) n1.rv e1
    · cases e1
  | new c => exact rx.elim
theorem rdS_seti {o i : Ex} (h : tS K cf (.seti o i e) D σ H) : tAsg (tE K cf e) (gSub (tE K cf o) (tE K cf i) rSetL) D σ H := by
  obtain ⟨Z, m, ρ, S, fl, ρ', S', sr, er, e1, k⟩ := h
  simp only [evalS] at e1
  obtain ⟨⟨v, S1⟩, e2, e1⟩ := bind_ok e1
  obtain ⟨p, e3, e1⟩ := bind_ok e1
  obtain ⟨⟨b, S2⟩, e4, e1⟩ := bind_ok e1
  obtain ⟨⟨c, S3⟩, e5, e1⟩ := bind_ok e1
  dsimp only at e1
  refine ⟨Z, m, ρ, S, v, S1, sr, er, e2, fun m1 H1 u1 p1 => ?_⟩
  have n1 := p1.norm
  have rp : Rp K (hide (Z ++ m1) H1) p u1 := by
    have rv := n1.rv
    cases v with
    | pv w => cases e3; exact rv
    | new c => cases e3; exact rv
    | loc l => cases e3
  refine ⟨Z, m1, ρ, S1, b, S2, n1.sr, er.stp n1.stp, e4, fun m2 H2 u2 p2 => ?_⟩
  have n2 := p2.norm
  refine ⟨Z, m2, ρ, S2, c, S3, n2.sr, (er.stp n1.stp).stp n2.stp, e5, fun m3 H3 u3 p3 => ?_⟩
  have n3 := p3.norm
  split at e1
  · split at e1
    · rename_i l j _ _ xs hl
      split at e1
      · rename_i hj
        cases e1
        obtain ⟨q, us, rfl, h1, h2, h3, h4⟩ := loc_at n3.sr ((show Rv K Z m2 H2 (.loc l) u2 from n2.rv).stp n3.stp) hl
        have hu3 : u3 = .int j := by
          have := n3.rv
          simpa only [norm, Rv, Rp] using this
        subst hu3
        have hlen := h4.length
        refine ⟨q, us, j, j.toNat, rfl, rfl, h3, ?_, ?_⟩
        · unfold ixN
          rw [if_pos hj.1, if_pos (by omega)]
        · have st := n1.stp.trans (n2.stp.trans n3.stp)
          have su : Stp m3 H3 m3 (upd H3 q (.lst (us.set j.toNat u1))) := Stp.upd h2
          refine k m3 σ _ (st.trans su) (n3.sr.upd h1 (Rps.set ?_ _ h4)) (((er.stp n1.stp).stp (n2.stp.trans n3.stp)).stp su)
          exact Rp.le (n3.stp.hide Z) _ _ (Rp.le (n2.stp.hide Z) _ _ rp)
      · cases e1
    · cases e1
  · cases e1
theorem rdS_exp (h : tS K cf (.exp e) D σ H) : tDrop (tE K cf e) D σ H := by
  obtain ⟨Z, m, ρ, S, fl, ρ', S', sr, er, e1, k⟩ := h
  simp only [evalS] at e1
  obtain ⟨⟨v, S1⟩, e2, e1⟩ := bind_ok e1
  cases e1
  refine ⟨Z, m, ρ, S, v, S1, sr, er, e2, fun m1 H1 u1 p1 => ?_⟩
  have n1 := p1.norm
  exact k m1 σ H1 n1.stp n1.sr (er.stp n1.stp)
theorem rdS_ret (h : tS K cf (.ret e) D σ H) : tRet (tE K cf e) D σ H := by
  obtain ⟨Z, m, ρ, S, fl, ρ', S', sr, er, e1, k⟩ := h
  simp only [evalS] at e1
  obtain ⟨⟨v, S1⟩, e2, e1⟩ := bind_ok e1
  cases e1
  exact ⟨Z, m, ρ, S, v, S1, sr, er, e2, k⟩
theorem rdS_retN (h : tS K cf .retN D σ H) : tRetN D σ H := by
  obtain ⟨Z, m, ρ, S, fl, ρ', S', sr, er, e1, k⟩ := h
  simp only [evalS] at e1
  cases e1
  exact k m H _ ⟨Stp.refl _ _, sr, by simp only [Rv, Rp]⟩
theorem rdS_pass (h : tS K cf .pass D σ H) : tNext D σ H := by
  obtain ⟨Z, m, ρ, S, fl, ρ', S', sr, er, e1, k⟩ := h
  simp only [evalS] at e1
  cases e1
  exact k m σ H (Stp.refl _ _) sr er
theorem rdS_brk (h : tS K cf .brk D σ H) : tBreak D σ H := by
  obtain ⟨Z, m, ρ, S, fl, ρ', S', sr, er, e1, k⟩ := h
  simp only [evalS] at e1
  cases e1
  exact k m σ H (Stp.refl _ _) sr er
theorem rdS_cont (h : tS K cf .cont D σ H) : tCont D σ H := by
  obtain ⟨Z, m, ρ, S, fl, ρ', S', sr, er, e1, k⟩ := h
  simp only [evalS] at e1
  cases e1
  exact k m σ H (Stp.refl _ _) sr er
theorem rdS_ifs {b c : Blk} (h : tS K cf (.ifs a b c) D σ H) : tIfS (tT K cf a) (tB K cf b) (tB K cf c) D σ H := by
  obtain ⟨Z, m, ρ, S, fl, ρ', S', sr, er, e1, k⟩ := h
  simp only [evalS] at e1
  obtain ⟨⟨v, S1⟩, e2, e1⟩ := bind_ok e1
  obtain ⟨p, e3, e1⟩ := bind_ok e1
  dsimp only at e1 e3
  split at e1
  · rename_i ht
    refine ⟨Z, m, ρ, S, v, S1, p, sr, er, e2, e3, ht, fun m1 H1 s1 r1 => ?_⟩
    split at e1
    · rename_i hp
      rw [if_pos hp]
      exact ⟨Z, m1, ρ, S1, fl, ρ', S', r1, er.stp s1, e1, k.after s1⟩
    · rename_i hp
      rw [if_neg hp]
      exact ⟨Z, m1, ρ, S1, fl, ρ', S', r1, er.stp s1, e1, k.after s1⟩
  · cases e1
theorem rdB_nil (h : tB K cf .nil D σ H) : tNext D σ H := by
  obtain ⟨Z, m, ρ, S, fl, ρ', S', sr, er, e1, k⟩ := h
  simp only [evalB] at e1
  cases e1
  exact k m σ H (Stp.refl _ _) sr er
theorem rdB_cons {s : Stm} {r : Blk} (h : tB K cf (.cons s r) D σ H) : tSeq (tS K cf s) (tB K cf r) D σ H := by
  obtain ⟨Z, m, ρ, S, fl, ρ', S', sr, er, e1, k⟩ := h
  simp only [evalB] at e1
  obtain ⟨⟨f1, ρ1, S1⟩, e2, e1⟩ := bind_ok e1
  dsimp only at e1
  refine ⟨Z, m, ρ, S, f1, ρ1, S1, sr, er, e2, ?_⟩
  cases f1 with
  | nx => exact fun m1 σ1 H1 s1 r1 er1 => ⟨Z, m1, ρ1, S1, fl, ρ', S', r1, er1, e1, k.after s1⟩
  | bk => cases e1; exact k
  | ct => cases e1; exact k
  | rt v => cases e1; exact k
theorem rdS_for {t : Tg} {it : It} {b : Blk} (h : tS K cf (.for_ t it b) D σ H) : tFor (tIt K cf it) (gTg K t) (tB K cf b) D σ H := by
  obtain ⟨Z, m, ρ, S, fl, ρ', S', sr, er, e1, k⟩ := h
  simp only [evalS] at e1
  obtain ⟨⟨xs, src, S1⟩, e2, e1⟩ := bind_ok e1
  dsimp only at e1
  refine ⟨Z, m, ρ, S, xs, src, S1, sr, er, e2, fun m1 H1 J ok s1 r1 st1 wk hok => ?_⟩
  generalize hF : (fun (x : PV) (ρ : Env) (S : Sto) => (do
      let ρ1 ← bindT S t (.pv x) ρ
      evalB cf b ρ1 S : Out (Flow × Env × Sto))) = F at e1
  refine ⟨fun i kk σ Hc => kk = xs.length - i ∧ i ≤ xs.length ∧ ∃ mi ρi Si, Stp m1 H1 mi Hc ∧ SR K Z mi Si Hc ∧ ok Z mi Hc ∧ ER K Z mi Hc ρi σ ∧ loopF F src xs (xs.drop i) ρi Si = .ok (fl, ρ', S'), ?_, ?_⟩
  · exact ⟨xs.length, by simp, Nat.zero_le _, m1, ρ, S1, Stp.refl _ _, r1, hok, er.stp s1, e1⟩
  · rintro i kk σ Hc ⟨rfl, hi, mi, ρi, Si, hst, hsr, okc, erc, hl⟩
    by_cases hlt : i < xs.length
    · rw [List.drop_eq_getElem_cons hlt] at hl
      simp only [loopF] at hl
      split at hl
      · rename_i hstill
        obtain ⟨⟨f1, ρ1, S3⟩, e3, hl⟩ := bind_ok hl
        refine .inr ⟨wk.go okc hsr hstill hlt, fun σ Hc => i + 1 ≤ xs.length ∧ ∃ mi ρi Si, Stp m1 H1 mi Hc ∧ SR K Z mi Si Hc ∧ ok Z mi Hc ∧ ER K Z mi Hc ρi σ ∧ loopF F src xs (xs.drop (i + 1)) ρi Si = .ok (fl, ρ', S'), fun σn Hn hn => ⟨_, ?_, rfl, hn⟩, fun u Hy y => ?_⟩
        · omega
        · obtain ⟨rfl, p, hp, rp⟩ := wk.yld okc hsr hstill hlt y
          rw [List.getElem?_eq_getElem hlt] at hp
          cases hp
          rw [← hF] at e3
          dsimp only at e3
          obtain ⟨ρ2, e5, e3⟩ := bind_ok e3
          refine g_tg (v := .pv xs[i]) (u := u) erc rp e5 fun σ2 er2 fr => ?_
          refine ⟨Z, mi, ρ2, Si, f1, ρ1, S3, hsr, er2, e3, ?_⟩
          cases f1 with
          | nx => exact fun m4 σ4 H4 s4 r4 er4 => ⟨hlt, m4, ρ1, S3, hst.trans s4, r4, wk.stp s4 okc, er4, hl⟩
          | ct => exact fun m4 σ4 H4 s4 r4 er4 => ⟨hlt, m4, ρ1, S3, hst.trans s4, r4, wk.stp s4 okc, er4, hl⟩
          | bk =>
            dsimp only at hl
            cases hl
            exact fun m4 σ4 H4 s4 r4 er4 => k m4 σ4 H4 (s1.trans (hst.trans s4)) r4 er4
          | rt v =>
            dsimp only at hl
            cases hl
            exact fun m4 H4 u4 p4 => k m4 H4 u4 (Post.after (s1.trans hst) p4)
      · cases hl
    · have hi' : i = xs.length := by omega
      subst hi'
      rw [List.drop_length] at hl
      simp only [loopF] at hl
      split at hl
      · rename_i hstill
        cases hl
        exact .inl ⟨wk.stop okc hsr hstill, k mi σ Hc (s1.trans hst) hsr erc⟩
      · cases hl
theorem rdS_whl {b : Blk} (h : tS K cf (.whl a b) D σ H) : tWhile (tT K cf a) (tB K cf b) D σ H := by
  obtain ⟨Z, m, ρ, S, fl, ρ', S', sr, er, e1, k⟩ := h
  simp only [evalS] at e1
  obtain ⟨n, e1⟩ := loopW_ok e1
  generalize hF : (fun (s : Env × Sto) => (do
      let (v, S) ← evalE cf a s.1 s.2
      let p ← rd S v
      if trOk p then (if truthy p then do
          let (fl, ρ, S) ← evalB cf b s.1 S
          match fl with
          | .nx => .ok (.inl (ρ, S))
          | .ct => .ok (.inl (ρ, S))
          | .bk => .ok (.inr (.nx, ρ, S))
          | .rt v => .ok (.inr (.rt v, ρ, S))
        else .ok (.inr (.nx, s.1, S))) else .bad : Out ((Env × Sto) ⊕ (Flow × Env × Sto)))) = F at e1
  refine ⟨fun kk σ Hc => ∃ mi ρi Si, Stp m H mi Hc ∧ SR K Z mi Si Hc ∧ ER K Z mi Hc ρi σ ∧ runN F kk (ρi, Si) = some (.ok (fl, ρ', S')), ⟨n, m, ρ, S, Stp.refl _ _, sr, er, e1⟩, ?_⟩
  rintro kk σ Hc ⟨mi, ρi, Si, hst, hsr, erc, hr⟩
  cases kk with
  | zero => cases hr
  | succ kk =>
    simp only [runN] at hr
    rw [← hF] at hr
    dsimp only at hr
    cases hv : evalE cf a ρi Si with
    | bad => rw [hv] at hr; cases hr
    | ok r =>
      obtain ⟨v, S1⟩ := r
      rw [hv] at hr
      simp only [ok_bind] at hr
      cases hp : rd S1 v with
      | bad => rw [hp] at hr; cases hr
      | ok p =>
        rw [hp] at hr
        simp only [ok_bind] at hr
        cases ht : trOk p with
        | false => rw [ht] at hr; cases hr
        | true =>
          rw [ht, if_pos rfl] at hr
          refine ⟨Z, mi, ρi, Si, v, S1, p, hsr, erc, hv, hp, ht, fun m1 H1 s1 r1 => ?_⟩
          cases hb : truthy p with
          | false =>
            rw [hb] at hr
            simp only [Bool.false_eq_true, if_false] at hr
            rw [if_neg Bool.false_ne_true]
            cases hr
            exact k m1 σ H1 (hst.trans s1) r1 (erc.stp s1)
          | true =>
            rw [hb] at hr
            simp only [if_true] at hr
            rw [if_pos rfl]
            cases hw : evalB cf b ρi S1 with
            | bad => rw [hw] at hr; cases hr
            | ok r =>
              obtain ⟨f1, ρ1, S2⟩ := r
              rw [hw] at hr
              simp only [ok_bind] at hr
              refine ⟨fun σ Hc => ∃ mi ρi Si, Stp m H mi Hc ∧ SR K Z mi Si Hc ∧ ER K Z mi Hc ρi σ ∧ runN F kk (ρi, Si) = some (.ok (fl, ρ', S')), fun σ' H' hn => ⟨kk, by omega, hn⟩, ?_⟩
              refine ⟨Z, m1, ρi, S1, f1, ρ1, S2, r1, erc.stp s1, hw, ?_⟩
              cases f1 with
              | nx =>
                dsimp only at hr
                rw [hF] at hr
                exact fun m2 σ2 H2 s2 r2 er2 => ⟨m2, ρ1, S2, (hst.trans s1).trans s2, r2, er2, hr⟩
              | ct =>
                dsimp only at hr
                rw [hF] at hr
                exact fun m2 σ2 H2 s2 r2 er2 => ⟨m2, ρ1, S2, (hst.trans s1).trans s2, r2, er2, hr⟩
              | bk =>
                dsimp only at hr
                cases hr
                exact fun m2 σ2 H2 s2 r2 er2 => k m2 σ2 H2 ((hst.trans s1).trans s2) r2 er2
              | rt w =>
                dsimp only at hr
                cases hr
                exact fun m2 H2 u2 p2 => k m2 H2 u2 (Post.after (hst.trans s1) p2)
end
end RS

set_option Elab.async false
set_option linter.all false
set_option maxRecDepth 100000
set_option maxHeartbeats 4000000
namespace RS
open PySem PySem.Spec PyProof.Rows L2

section
variable {X : Cx} {T : TC} {cf : Nat → List Val → Sto → Out (Val × Sto)}
theorem swaps_not {e : Expr} {t : Option Expr} {l : Nat} {env : PySem.Env} (h : isComp e = false) : swapsWith e t l env = pure false := by
  cases e <;> first
    | rfl
    | cases h
theorem swaps_lc {elt : Expr} {gs : List Comprehension} {scope : Scope} {pos px : Pos} {x : Str} {l : Nat} (o : XOk X T cf) (hk : X.env.scope.kind = .function) :
    swapsWith (.ListComp elt gs scope pos) (some (.Name x px)) l X.env = pure (swB T x px (.ListComp elt gs scope pos)) := by
  have hb : X.env.blockKind = .function := by unfold Env.blockKind; rw [hk]; rfl
  have ky : X.env.kindOf x = T.sc.names.lookup x := by unfold Env.kindOf; rw [o.sc]
  unfold swapsWith swB
  simp only [hb, ky, Expr.pos]
  rfl
theorem box_sound {b : Bool} {e : Expr} {x : Ex} (h : SE X cf e x) : PE X e (tE X.K cf (boxIf b e x)) := by
  unfold boxIf
  split
  · exact PE.imp h.pe fun σ H Q q => rdE_box q
  · exact h.pe
theorem par_sound (o : XOk X T cf) {B : List Str} {n : Nat} : ∀ {ns : List (Option Str)} {es : List Expr} {xs : Exs}, trPar (trE n T) B ns es = some xs → PA X es (tA X.K cf xs)
  | [], [], xs, h => by
    simp only [trPar] at h
    cases h
    exact PA.imp pa_nil fun σ H Q q => rdA_nil q
  | [], _ :: _, xs, h => by simp [trPar] at h
  | _ :: _, [], xs, h => by simp [trPar] at h
  | m :: ns, e :: es, xs, h => by
    simp only [trPar, Option.bind_eq_bind, Option.bind_eq_some_iff, Option.some.injEq] at h
    obtain ⟨x, h1, ys, h2, rfl⟩ := h
    exact PA.imp (pa_cons (box_sound (trE_sound n o h1)) (par_sound o h2) (starEach_cons (trE_notStar h1))) fun σ H Q q => rdA_cons q
theorem par_notStar {B : List Str} {n : Nat} : ∀ {ns : List (Option Str)} {es : List Expr} {xs : Exs}, trPar (trE n T) B ns es = some xs → ∀ e ∈ es, ∀ a p, e ≠ .Starred a p
  | [], [], xs, h => fun e he => by cases he
  | [], _ :: _, xs, h => by simp [trPar] at h
  | _ :: _, [], xs, h => by simp [trPar] at h
  | m :: ns, e :: es, xs, h => by
    simp only [trPar, Option.bind_eq_bind, Option.bind_eq_some_iff, Option.some.injEq] at h
    obtain ⟨x, h1, ys, h2, rfl⟩ := h
    intro e' he
    rcases List.mem_cons.mp he with rfl | he
    · exact trE_notStar h1
    · exact par_notStar h2 e' he
theorem trTs_names {is : List Nat} : ∀ {ts : List Expr}, trTs T ts = some is → ∀ e ∈ ts, ∃ x p, e = .Name x p
  | [], _, e, he => by cases he
  | t :: ts, h, e, he => by
    cases t <;> simp only [trTs] at h <;> try (cases h; done)
    split at h
    · simp only [Option.bind_eq_bind, Option.bind_eq_some_iff, Option.some.injEq] at h
      obtain ⟨i, h1, js, h2, _⟩ := h
      rcases List.mem_cons.mp he with rfl | he
      · exact ⟨_, _, rfl⟩
      · exact trTs_names h2 e he
    · cases h
theorem trTs_len : ∀ {ts : List Expr} {is : List Nat}, trTs T ts = some is → is.length = ts.length
  | [], is, h => by simp only [trTs] at h; cases h; rfl
  | t :: ts, is, h => by
    cases t <;> simp only [trTs] at h <;> try (cases h; done)
    split at h
    · simp only [Option.bind_eq_bind, Option.bind_eq_some_iff, Option.some.injEq] at h
      obtain ⟨i, h1, js, h2, rfl⟩ := h
      simp only [List.length_cons, trTs_len h2]
    · cases h
theorem filterMap_short {α β : Type} (f : α → Option β) : ∀ {l : List α}, (∃ x ∈ l, f x = none) → (l.filterMap f).length < l.length
  | [], h => by obtain ⟨x, hx, _⟩ := h; cases hx
  | y :: r, h => by
    rw [List.filterMap_cons]
    have hle := List.length_filterMap_le f r
    cases e : f y with
    | none => simp only [List.length_cons]; omega
    | some z =>
      obtain ⟨x, hx, hn⟩ := h
      rcases List.mem_cons.mp hx with rfl | hx
      · rw [e] at hn; cases hn
      · have := filterMap_short f ⟨x, hx, hn⟩
        simp only [List.length_cons]
        omega
theorem star_f {e : Expr} (h : ∀ a p, e ≠ .Starred a p) : (match e with | .Starred .. => true | _ => false) = false := by
  cases e <;> first
    | rfl
    | exact absurd rfl (h _ _)
/-- the tuple is built and taken apart -/
theorem sw_none (o : XOk X T cf) (hk : X.env.scope.kind = .function) {ts vs : List Expr} {k k2 : Nat} {p p2 : Pos} (hl : vs.length = ts.length) (hst : ∀ e ∈ vs, ∀ a p, e ≠ .Starred a p) (h : swNone T ts vs = true) :
    swappedStores [.Tuple ts k p] (.Tuple vs k2 p2) X.env = pure none := by
  have hb : X.env.blockKind = .function := by unfold Env.blockKind; rw [hk]; rfl
  have hs : (vs.any fun | .Starred .. => true | _ => false) = false := by
    rw [List.any_eq_false]
    intro e he
    cases e <;> first
      | exact Bool.false_ne_true
      | exact absurd rfl (hst _ he _ _)
  unfold swappedStores
  simp only [hb, hs, hl]
  unfold swNone at h
  simp only [Bool.or_eq_true] at h
  rcases h with (h | h) | h
  · rw [if_pos (by simp only [Bool.or_eq_true]; exact .inl (.inl h))]
  · repeat (first | rfl | (exact absurd h ‹_›) | split)
  · split
    · rfl
    split
    · rfl
    rw [if_pos]
    simp only [Bool.or_eq_true]
    left
    simp only [Bool.not_eq_true', List.all_eq_false] at h
    obtain ⟨e, he, hf⟩ := h
    rw [bne_iff_ne]
    refine Nat.ne_of_lt (filterMap_short _ ⟨e, he, ?_⟩)
    cases e <;> first
      | rfl
      | (simp only at hf ⊢
         unfold Env.kindOf
         rw [o.sc, if_neg (by simpa using hf)])
theorem sw_two (o : XOk X T cf) (hk : X.env.scope.kind = .function) {x y : Str} {px py : Pos} {a b : Expr} {k k2 : Nat} {p p2 : Pos} (hst : ∀ e ∈ [a, b], ∀ a p, e ≠ .Starred a p) (h : swNames T [.Name x px, .Name y py] [a, b] = true) :
    swappedStores [.Tuple [.Name x px, .Name y py] k p] (.Tuple [a, b] k2 p2) X.env = pure (some [x, y]) ∧ T.sc.names.lookup x = some .local ∧ T.sc.names.lookup y = some .local ∧ x ≠ y := by
  have hb : X.env.blockKind = .function := by unfold Env.blockKind; rw [hk]; rfl
  have hs : ([a, b].any fun | .Starred .. => true | _ => false) = false := by
    rw [List.any_eq_false]
    intro e he
    cases e <;> first
      | exact Bool.false_ne_true
      | exact absurd rfl (hst _ he _ _)
  have kx : X.env.kindOf x = T.sc.names.lookup x := by unfold Env.kindOf; rw [o.sc]
  have ky : X.env.kindOf y = T.sc.names.lookup y := by unfold Env.kindOf; rw [o.sc]
  unfold swNames at h
  simp only [Bool.and_eq_true, Bool.not_eq_true', List.all_cons, List.all_nil, Bool.and_true, List.filterMap_cons, List.filterMap_nil, List.head?_cons, Option.map_some, Option.getD_some] at h
  obtain ⟨⟨⟨⟨h1, h2⟩, h3⟩, ⟨⟨h4, h5⟩, h6, h7⟩⟩, h8⟩ := h
  have hxy : x ≠ y := by
    intro e
    subst e
    simp [List.eraseDups_cons] at h8
  refine ⟨?_, eq_of_beq h4, eq_of_beq h6, hxy⟩
  unfold swappedStores
  have hb' : (List.all [a, b] (foldedForSure 8)) = false := by simpa [List.all_cons] using h2
  have hc' : (List.all [a, b] (constantsAlone 8)) = false := by simpa [List.all_cons] using h3
  simp only [hb, hs, kx, ky, List.filterMap_cons, List.filterMap_nil, h4, h5, h6, h7, List.head?_cons, Option.map_some, Option.getD_some, Bool.and_self, if_true, hb', hc']
  have hd : ([x, y] : List Str).eraseDups = [x, y] := by
    simp [List.eraseDups_cons, hxy.symm, hxy]
  rw [hd]
  simp
  intro h
  exfalso
  have sa := hst a (by simp)
  have sb := hst b (by simp)
  clear hst hs h2 h3 hb' hc'
  rcases h with h | h
  · cases a <;> first | (cases h; done) | exact absurd rfl (sa _ _)
  · cases b <;> first | (cases h; done) | exact absurd rfl (sb _ _)
theorem sw_three (o : XOk X T cf) (hk : X.env.scope.kind = .function) {x y z : Str} {px py pz : Pos} {a b c : Expr} {k k2 : Nat} {p p2 : Pos} (hst : ∀ e ∈ [a, b, c], ∀ a p, e ≠ .Starred a p) (h : swNames T [.Name x px, .Name y py, .Name z pz] [a, b, c] = true) :
    swappedStores [.Tuple [.Name x px, .Name y py, .Name z pz] k p] (.Tuple [a, b, c] k2 p2) X.env = pure (some [x, y, z]) ∧ T.sc.names.lookup x = some .local ∧ T.sc.names.lookup y = some .local ∧ T.sc.names.lookup z = some .local ∧ x ≠ y ∧ x ≠ z ∧ y ≠ z := by
  have hb : X.env.blockKind = .function := by unfold Env.blockKind; rw [hk]; rfl
  have hs : ([a, b, c].any fun | .Starred .. => true | _ => false) = false := by
    rw [List.any_eq_false]
    intro e he
    cases e <;> first
      | exact Bool.false_ne_true
      | exact absurd rfl (hst _ he _ _)
  have kx : X.env.kindOf x = T.sc.names.lookup x := by unfold Env.kindOf; rw [o.sc]
  have ky : X.env.kindOf y = T.sc.names.lookup y := by unfold Env.kindOf; rw [o.sc]
  have kz : X.env.kindOf z = T.sc.names.lookup z := by unfold Env.kindOf; rw [o.sc]
  unfold swNames at h
  simp only [Bool.and_eq_true, Bool.not_eq_true', List.all_cons, List.all_nil, Bool.and_true, List.filterMap_cons, List.filterMap_nil, List.head?_cons, Option.map_some, Option.getD_some] at h
  obtain ⟨⟨⟨⟨h1, h2⟩, h3⟩, ⟨⟨h4, h5⟩, ⟨h6, h7⟩, h9, h10⟩⟩, h8⟩ := h
  have hall : x ≠ y ∧ x ≠ z ∧ y ≠ z := by
    have h8' : ([x, y, z] : List Str).eraseDups.length = 3 := by simpa using h8
    refine ⟨fun e => ?_, fun e => ?_, fun e => ?_⟩
    · subst e
      by_cases hz : z = x
      · subst hz; simp [List.eraseDups_cons] at h8'
      · simp [List.eraseDups_cons, hz] at h8'
    · subst e
      by_cases hz : y = x
      · subst hz; simp [List.eraseDups_cons] at h8'
      · simp [List.eraseDups_cons, hz] at h8'
    · subst e
      by_cases hz : y = x
      · subst hz; simp [List.eraseDups_cons] at h8'
      · simp [List.eraseDups_cons, hz] at h8'
  obtain ⟨n1, n2, n3⟩ := hall
  refine ⟨?_, eq_of_beq h4, eq_of_beq h6, eq_of_beq h9, n1, n2, n3⟩
  unfold swappedStores
  have hb' : (List.all [a, b, c] (foldedForSure 8)) = false := by simpa [List.all_cons] using h2
  have hc' : (List.all [a, b, c] (constantsAlone 8)) = false := by simpa [List.all_cons] using h3
  simp only [hb, hs, kx, ky, kz, List.filterMap_cons, List.filterMap_nil, h4, h5, h6, h7, h9, h10, List.head?_cons, Option.map_some, Option.getD_some, Bool.and_self, if_true, hb', hc']
  have hd : ([x, y, z] : List Str).eraseDups = [x, y, z] := by
    simp [List.eraseDups_cons, n1.symm, n2.symm, n3.symm]
  rw [hd]
  simp
  intro h
  exfalso
  have sa := hst a (by simp)
  have sb := hst b (by simp)
  have sc := hst c (by simp)
  clear hst hs h2 h3 hb' hc'
  rcases h with h | h | h
  · cases a <;> first | (cases h; done) | exact absurd rfl (sa _ _)
  · cases b <;> first | (cases h; done) | exact absurd rfl (sb _ _)
  · cases c <;> first | (cases h; done) | exact absurd rfl (sc _ _)

/-- a, b, .. = x, y, .. -/
theorem ps_pars (o : XOk X T cf) (hk : X.env.scope.kind = .function) {B : List Str} {n : Nat} {ts vs : List Expr} {k k2 : Nat} {p p2 pos : Pos} {is : List Nat} {ys : Exs} (h0 : (ts.length == vs.length && decide (ts.length ≤ 100)) = true) (h1 : trTs T ts = some is) (h2 : trPar (trE n T) B (namesOf ts) vs = some ys) (h3 : (swNone T ts vs || swNames T ts vs) = true) :
    PS X (.Assign [.Tuple ts k p] (.Tuple vs k2 p2) pos) (tS X.K cf (.par is ys)) := by
  simp only [Bool.and_eq_true, beq_iff_eq, decide_eq_true_eq] at h0
  have pa := par_sound (n := n) o h2
  have hst := par_notStar h2
  simp only [Bool.or_eq_true] at h3
  rcases h3 with h3 | h3
  · obtain ⟨g1, g2, g3⟩ := pgs_names o h1
    refine PS.imp (ps_asg (pe_tup pa) (pg_tup o.calm g1 g2 g3) rfl (sw_none o hk h0.1.symm hst h3) rfl) fun D σ H q => rdS_par ?_ q
    rw [trTs_len h1]
    have := h0.2
    unfold line
    omega
  · have hn := trTs_names h1
    have hlen : ts.length = 2 ∨ ts.length = 3 := by
      unfold swNames at h3
      simp only [Bool.and_eq_true, Bool.or_eq_true, beq_iff_eq] at h3
      exact h3.1.1.1.1
    rcases hlen with hl | hl
    · match ts, vs, hl, h0 with
      | [t1, t2], [a, b], _, _ =>
        obtain ⟨x, px, rfl⟩ := hn t1 (by simp)
        obtain ⟨y, py, rfl⟩ := hn t2 (by simp)
        obtain ⟨w1, w2, w3, w4⟩ := sw_two (k := k) (k2 := k2) (p := p) (p2 := p2) o hk hst h3
        simp only [trTs] at h1
        split at h1
        · simp only [Option.bind_eq_bind, Option.bind_eq_some_iff, Option.some.injEq] at h1
          obtain ⟨i, e1, js, h1, rfl⟩ := h1
          split at h1
          · simp only [Option.bind_some, Option.bind_eq_some_iff, Option.some.injEq] at h1
            obtain ⟨j, e2, rfl⟩ := h1
            have gi := slotOf_get e1
            have gj := slotOf_get e2
            rw [← o.N] at gi gj
            refine PS.imp (ps_par (i := i) (j := j) o.calm o.nd gi gj ?_ (by rw [o.sc]; exact w2) (by rw [o.sc]; exact w3) pa w1 rfl) fun D σ H q => rdS_par2 q
            intro e
            subst e
            rw [gi] at gj
            exact w4 (Option.some.inj gj)
          · cases h1
        · cases h1
    · match ts, vs, hl, h0 with
      | [t1, t2, t3], [a, b, c], _, _ =>
        obtain ⟨x, px, rfl⟩ := hn t1 (by simp)
        obtain ⟨y, py, rfl⟩ := hn t2 (by simp)
        obtain ⟨z, pz, rfl⟩ := hn t3 (by simp)
        obtain ⟨w1, w2, w3, w4, w5, w6, w7⟩ := sw_three (k := k) (k2 := k2) (p := p) (p2 := p2) o hk hst h3
        simp only [trTs] at h1
        split at h1
        · simp only [Option.bind_eq_bind, Option.bind_eq_some_iff, Option.some.injEq] at h1
          obtain ⟨i, e1, js, h1, rfl⟩ := h1
          split at h1
          · simp only [Option.bind_eq_some_iff, Option.some.injEq] at h1
            obtain ⟨j, e2, ls, h1, rfl⟩ := h1
            split at h1
            · simp only [Option.bind_some, Option.bind_eq_some_iff, Option.some.injEq] at h1
              obtain ⟨l, e3, rfl⟩ := h1
              have gi := slotOf_get e1
              have gj := slotOf_get e2
              have gl := slotOf_get e3
              rw [← o.N] at gi gj gl
              refine PS.imp (ps_par3 (i := i) (j := j) (l := l) o.calm o.nd gi gj gl ?_ ?_ ?_ (by rw [o.sc]; exact w2) (by rw [o.sc]; exact w3) (by rw [o.sc]; exact w4) pa w1 rfl) fun D σ H q => rdS_par3 q
              · intro e
                subst e
                rw [gi] at gj
                exact w5 (Option.some.inj gj)
              · intro e
                subst e
                rw [gi] at gl
                exact w6 (Option.some.inj gl)
              · intro e
                subst e
                rw [gj] at gl
                exact w7 (Option.some.inj gl)
            · cases h1
          · cases h1
        · cases h1
theorem pip_aug {op : Operator} {o : Op2} (h : iopOf op = some o) : PIp X op (rAug X.K o) := by
  cases op <;> cases h
  · intro pins s σ H x y v u Q I rx ry q
    rcases q with q | ⟨_, q⟩
    · exact iop_addS pins s σ H x y v u Q I rx ry q
    · exact iop_ext pins s σ H x y v u Q I rx ry q
  · intro pins s σ H x y v u Q I rx ry q
    rcases q with q | ⟨z, q⟩
    · refine iop_subS pins s σ H x y v u Q I rx ry ?_
      obtain ⟨m, p, q, r, sr, rp, rq, e, k⟩ := q
      refine ⟨m, p, q, r, sr, rp, rq, ?_, k⟩
      dsimp only at e
      split at e
      · cases e
      · exact e
    · cases z
theorem never (o : XOk X T cf) : PassesOwn (model X.prog X.w) X.A X.env X.xe := by
  rw [o.xe]
  exact PassesOwn.never
/-- a block of statements -/
theorem blk_sound {B : List Str} {n : Nat} (ih : ∀ {s : Stmt} {x : Stm}, trS B n T s = some x → PS X s (tS X.K cf x)) : ∀ {ss : List Stmt} {b : Blk}, (ss.foldr (fun s r => do
      let x ← trS B n T s
      let y ← r
      some (.cons x y)) (some .nil) : Option Blk) = some b → PSs X ss (tB X.K cf b)
  | [], b, h => by
    simp only [List.foldr_nil] at h
    cases h
    exact PSs.imp pss_nil fun D σ H q => rdB_nil q
  | s :: ss, b, h => by
    simp only [List.foldr_cons, Option.bind_eq_bind, Option.bind_eq_some_iff, Option.some.injEq] at h
    obtain ⟨x, h1, y, h2, rfl⟩ := h
    exact PSs.imp (pss_cons (ih h1) (blk_sound ih h2)) fun D σ H q => rdB_cons q
end
end RS

set_option Elab.async false
set_option linter.all false
set_option maxRecDepth 100000
set_option maxHeartbeats 4000000
namespace RS
open PySem PySem.Spec PyProof.Rows L2

section
variable {X : Cx} {T : TC} {cf : Nat → List Val → Sto → Out (Val × Sto)}
theorem trE_comp {n : Nat} {e : Expr} {y : Ex} (hc : isComp e = true) (h : trE (n + 1) T e = some y) : ∃ elt tg iter ifs scope pos, e = .ListComp elt [⟨tg, iter, ifs, 0⟩] scope pos ∧ (trCmp (trE n) T elt tg iter ifs scope).map Cmp.ex = some y := by
  cases e with
  | ListComp elt gs scope pos =>
    unfold trE at h
    split at h <;> (try (rename_i heq; cases heq; done))
    · rename_i heq
      cases heq
      exact ⟨_, _, _, _, _, _, rfl, h⟩
    · cases h
  | SetComp _ _ _ _ => simp [trE] at h
  | DictComp _ _ _ _ _ => simp [trE] at h
  | _ => cases hc
theorem set_sound (o : XOk X T cf) (hk : X.env.scope.kind = .function) {B : Bool} {x : Str} {px pos : Pos} {e : Expr} {i : Nat} {y : Ex} (hl : T.loc x = true) (h1 : slotOf T.N x = some i) (h2 : trE 40 T e = some y) :
    PS X (.Assign [.Name x px] e pos) (tS X.K cf (.set (.name i) (boxIf B e y))) := by
  obtain ⟨l1, l2⟩ := o.loc hl
  have gi := slotOf_get h1
  rw [← o.N] at gi
  by_cases hc : isComp e = true
  · obtain ⟨elt, tg, iter, ifs, scope, cpos, rfl, h2⟩ := trE_comp hc h2
    obtain ⟨c, h3, rfl⟩ := Option.map_eq_some_iff.mp h2
    obtain ⟨p1, p2, p3, p4, p5, p6, p7, p8⟩ := cmp_sound o (fun o' h' => trE_sound 39 o' h') h3
    have rd : ∀ σ H Q, tE X.K cf (boxIf B (.ListComp elt [⟨tg, iter, ifs, 0⟩] scope cpos) c.ex) σ H Q → tLc (tIt X.K cf c.it) (gTg X.K c.tg) (tCs X.K cf c.cond) (tE X.K cf c.elt) ((ownOf T.N scope.names).map (·.2)) σ H Q := fun σ H Q q => by
      rw [← p3]
      unfold boxIf at q
      split at q
      · exact rd_comp p8 (rdE_box q)
      · exact rd_comp p8 q
    have sw := swaps_lc (elt := elt) (gs := [⟨tg, iter, ifs, 0⟩]) (scope := scope) (pos := cpos) (px := px) (x := x) (l := pos.line) o hk
    cases hb : swB T x px (.ListComp elt [⟨tg, iter, ifs, 0⟩] scope cpos) with
    | true =>
      rw [hb] at sw
      have hloc : X.env.scope.names.lookup x = some .local := by
        unfold swB at hb
        simp only [Bool.and_eq_true] at hb
        rw [o.sc]
        exact eq_of_beq hb.1.1
      exact PS.imp (ps_setLc (i := i) o.calm o.nd gi hloc sw p1 p2 p4 p5 p6 p7) fun D σ H q => rd _ _ _ (rdS_set q)
    | false =>
      rw [hb] at sw
      exact PS.imp (ps_set (i := i) o.nd gi l1 (pe_lc o.calm o.nd p1 p2 p4 p5 p6 p7) sw l2) fun D σ H q => rd _ _ _ (rdS_set q)
  · exact PS.imp (ps_set (i := i) o.nd gi l1 (box_sound (trE_sound 40 o h2)) (swaps_not (Bool.eq_false_iff.mpr hc)) l2) fun D σ H q => rdS_set q
theorem swaps_sole {t e : Expr} {l : Nat} {env : PySem.Env} (h : isComp e = false) : swapsWithSole [t] e l env = pure false := swaps_not h
theorem swst_none {ts : List Expr} {k : Nat} {p : Pos} {e : Expr} {env : PySem.Env} (h : isTupD e = false) : swappedStores [.Tuple ts k p] e env = pure none := by
  cases e <;> first
    | rfl
    | cases h
theorem swst_sub {o i e : Expr} {p : Pos} {env : PySem.Env} : swappedStores [.Subscript o i p] e env = pure none := rfl
theorem ha_sub {o i : Expr} {p : Pos} {env : PySem.Env} (h : ∀ a b c q, i ≠ .Slice a b c q) : ∀ v, assign (.Subscript o i p) env v = (do
      let ov ← holding [v] (eval o env)
      let iv ← holding [v, ov] (eval i env)
      standAt p
      holding [v, ov, iv] (setItem ov iv v)
      release [v, ov, iv] []) := by
  intro v
  cases i <;> first
    | rfl
    | exact absurd rfl (h _ _ _ _)
theorem trS_sound {B : List Str} (o : XOk X T cf) (hk : X.env.scope.kind = .function) : ∀ (n : Nat) {s : Stmt} {x : Stm}, trS B n T s = some x → PS X s (tS X.K cf x) := by
  intro n
  induction n with
  | zero => intro s x h; simp [trS] at h
  | succ n ih =>
    intro s x h
    unfold trS at h
    simp only at h
    split at h
    · split at h
      · rename_i hl
        simp only [Option.bind_eq_bind, Option.bind_eq_some_iff, Option.some.injEq] at h
        obtain ⟨i, h1, y, h2, rfl⟩ := h
        exact set_sound o hk hl h1 h2
      · cases h
    · split at h
      · rename_i h0
        simp only [Option.bind_eq_bind, Option.bind_eq_some_iff] at h
        obtain ⟨is, h1, ys, h2, h⟩ := h
        split at h
        · rename_i h3
          cases h
          exact ps_pars o hk h0 h1 h2 h3
        · cases h
      · cases h
    · split at h
      · cases h
      · rename_i hc
        simp only [Bool.or_eq_true, not_or, Bool.not_eq_true] at hc
        simp only [Option.bind_eq_bind, Option.bind_eq_some_iff, Option.some.injEq] at h
        obtain ⟨is, h1, y, h2, rfl⟩ := h
        obtain ⟨g1, g2, g3⟩ := pgs_names o h1
        exact PS.imp (ps_asg (trE_sound 40 o h2).pe (pg_tup o.calm g1 g2 g3) (swaps_sole hc.2) (swst_none hc.1) rfl) fun D σ H q => rdS_set q
    · split at h
      · cases h
      · rename_i hc
        simp only [Option.bind_eq_bind, Option.bind_eq_some_iff] at h
        obtain ⟨y, h1, a, h2, k, h3, h⟩ := h
        split at h
        · cases h
        · cases h
          exact PS.imp (ps_asg (trE_sound 40 o h1).pe (pg_sub (trE_sound 40 o h2).pe (trE_sound 40 o h3).pe set_list (ha_sub (trE_notSlice h3))) (swaps_sole (Bool.eq_false_iff.mpr hc)) swst_sub rfl) fun D σ H q => rdS_seti q
    · split at h
      · rename_i hl
        simp only [Option.bind_eq_bind, Option.bind_eq_some_iff, Option.some.injEq] at h
        obtain ⟨i, h1, op, h2, y, h3, rfl⟩ := h
        obtain ⟨l1, l2⟩ := o.loc hl
        have gi := slotOf_get h1
        rw [← o.N] at gi
        exact PS.imp (ps_aug (i := i) o.nd gi l1 (trE_sound 40 o h3).pe (pip_aug h2) l2) fun D σ H q => rdS_aug q
      · cases h
    · split at h
      · cases h
      · rename_i hc
        split at h
        · cases h
          exact PS.imp ps_doc fun D σ H q => rdS_pass q
        · obtain ⟨y, h1, rfl⟩ := Option.map_eq_some_iff.mp h
          exact PS.imp (ps_expr (trE_sound 40 o h1).pe (swaps_not (Bool.eq_false_iff.mpr hc))) fun D σ H q => rdS_exp q
    · obtain ⟨y, h1, rfl⟩ := Option.map_eq_some_iff.mp h
      exact PS.imp (ps_ret (trE_sound 40 o h1).pe) fun D σ H q => rdS_ret q
    · cases h
      exact PS.imp ps_retN fun D σ H q => rdS_retN q
    · simp only [Option.bind_eq_bind, Option.bind_eq_some_iff, Option.some.injEq] at h
      obtain ⟨y, h1, b, h2, c, h3, rfl⟩ := h
      exact PS.imp (ps_if (trE_sound 40 o h1).pt (blk_sound ih h2) (blk_sound ih h3)) fun D σ H q => rdS_ifs q
    · simp only [Option.bind_eq_bind, Option.bind_eq_some_iff, Option.some.injEq] at h
      obtain ⟨y, h1, b, h2, rfl⟩ := h
      exact PS.imp (ps_while (never o) (trE_sound 40 o h1).pt (blk_sound ih h2)) fun D σ H q => rdS_whl q
    · simp only [Option.bind_eq_bind, Option.bind_eq_some_iff, Option.some.injEq] at h
      obtain ⟨t, h1, it, h2, b, h3, rfl⟩ := h
      obtain ⟨p1, p2⟩ := pi_of o (fun {e x} h => trE_sound 40 o h) _ h2
      exact PS.imp (ps_for (never o) o.calm p1 (pg_tg o h1) (blk_sound ih h3) (folded_of p2)) fun D σ H q => rdS_for q
    · cases h
      exact PS.imp ps_pass fun D σ H q => rdS_pass q
    · cases h
      exact PS.imp ps_break fun D σ H q => rdS_brk q
    · cases h
      exact PS.imp ps_continue fun D σ H q => rdS_cont q
    · cases h
end
end RS

set_option Elab.async false
set_option linter.all false
set_option maxRecDepth 100000
set_option maxHeartbeats 4000000
namespace RS
open PySem PySem.Spec PyProof.Rows L2

structure Df where
  nm : Str
  st : Stmt
  ps : List Str
  N : List Str
  B : List Str
  fn : Fn
def trBody (B : List Str) (T : TC) (ss : List Stmt) : Option Blk := ss.foldr (fun s r => do
      let x ← trS B 30 T s
      let y ← r
      some (.cons x y)) (some .nil)
structure DfOk (fx : List (Str × Nat)) (d : Df) : Prop where
  sc : FnScope d.N d.ps (defScope d.st)
  tr : trBody d.B ⟨d.N, defScope d.st, none, fx⟩ (defBody d.st) = some d.fn.body
  np : d.fn.np = d.ps.length
  ns : d.fn.ns = d.N.length

section
variable {K : PySem.W.Frag} {Z m m' : List Addr} {H H' : Hp} {S1 : Sto}
theorem SR.cut (s : SR K Z (m ++ m') S1 H') : SR K Z m (S1.take m.length) H' := by
  have hsub : ∀ a, a ∈ Z ++ m → a ∈ Z ++ (m ++ m') := fun a h => by
    simp only [List.mem_append] at h ⊢
    rcases h with h | h
    · exact .inl h
    · exact .inr (.inl h)
  have hl : m.length ≤ S1.length := by rw [← s.len, List.length_append]; omega
  refine ⟨by rw [List.length_take]; omega, (List.nodup_append.mp s.nd).1, fun a ha hm => s.dis a ha (List.mem_append_left _ hm), s.trk, fun l xs e => ?_⟩
  have hlt : l < m.length := by
    have := (List.getElem?_eq_some_iff.mp e).1
    rw [List.length_take] at this
    omega
  rw [List.getElem?_take_of_lt hlt] at e
  obtain ⟨a, us, h1, h2, h3⟩ := s.sto l xs e
  rw [List.getElem?_append_left hlt] at h1
  exact ⟨a, us, h1, h2, Rps.le (hide_sub hsub) _ _ h3⟩
/-- behind a def's end its own lists are let go -/
theorem Post.handed {v v' : Val} {S S' : Sto} {u : V} {mm : List Addr} (hS : m.length = S.length) (h : Post K Z m H v' S1 u mm H') (e : RS.handed S.length S1 v' = .ok (v, S')) : Post K Z m H v S' u m H' := by
  have cutS : ∀ {Z' : List Addr} {r : List Addr}, SR K Z' (m ++ r) S1 H' → SR K Z' m (S1.take S.length) H' := fun {Z' r} s => by rw [← hS]; exact s.cut
  cases v' with
  | pv p =>
    simp only [RS.handed] at e
    cases e
    obtain ⟨st, sr, rv⟩ := h
    obtain ⟨r, rfl⟩ := st.pre
    refine ⟨⟨⟨[], by simp⟩, fun a h n => absurd h n, st.ext⟩, cutS sr, ?_⟩
    refine Rp.le (hide_sub fun a h => ?_) _ _ rv
    simp only [List.mem_append] at h ⊢
    rcases h with h | h
    · exact .inl h
    · exact .inr (.inl h)
  | new c =>
    simp only [RS.handed] at e
    cases e
    obtain ⟨p, us, rfl, n, nz, hn, hp, st, sr, r⟩ := h
    obtain ⟨q, rfl⟩ := st.pre
    refine ⟨p, us, rfl, fun z => n (List.mem_append_left _ z), nz, hn, hp, ⟨⟨[], by simp⟩, fun a h n => absurd h n, st.ext⟩, cutS sr, ?_⟩
    cases c with
    | lst xs =>
      refine Rps.le (hide_sub fun a h => ?_) _ _ r
      simp only [List.mem_append, List.cons_append, List.mem_cons] at h ⊢
      rcases h with h | h | h
      · exact .inl h
      · exact .inr (.inl h)
      · exact .inr (.inr (.inl h))
  | loc l =>
    obtain ⟨st, sr, rv⟩ := h
    obtain ⟨r, rfl⟩ := st.pre
    obtain ⟨a, ha, rfl⟩ := rv
    simp only [RS.handed] at e
    split at e
    · rename_i hl
      cases e
      refine ⟨⟨⟨[], by simp⟩, fun a h n => absurd h n, st.ext⟩, cutS sr, a, ?_, rfl⟩
      rw [List.getElem?_append_left (by omega)] at ha
      exact ha
    · rename_i hl
      split at e
      · rename_i c hc
        cases e
        cases c with
        | lst xs =>
          obtain ⟨b, us, h1, h2, h3⟩ := sr.sto l xs hc
          rw [ha] at h1
          cases h1
          have hmem : a ∈ m ++ r := List.mem_of_getElem? ha
          have hm : a ∉ m := fun z => by
            obtain ⟨i, hi, ei⟩ := List.getElem_of_mem z
            have h4 : (m ++ r)[i]? = some a := by rw [List.getElem?_append_left hi, List.getElem?_eq_getElem hi, ei]
            have := nodup_at sr.nd ha h4
            omega
          have hz : a ∉ Z := fun z => sr.dis a z hmem
          have c1 := cutS sr
          refine ⟨a, us, rfl, hm, hz, st.new a hmem hm, h2, ⟨⟨[], by simp⟩, fun a h n => absurd h n, st.ext⟩, ⟨c1.len, c1.nd, fun b hb => ?_, fun b hb => ?_, fun i ys e => ?_⟩, ?_⟩
          · rcases List.mem_cons.mp hb with rfl | hb
            · exact hm
            · exact c1.dis b hb
          · rcases List.mem_cons.mp hb with rfl | hb
            · rw [h2]; simp
            · exact c1.trk b hb
          · have hlt : i < m.length := by
              have := (List.getElem?_eq_some_iff.mp e).1
              rw [List.length_take] at this
              omega
            rw [List.getElem?_take_of_lt (by omega)] at e
            obtain ⟨b, ws, g1, g2, g3⟩ := sr.sto i ys e
            rw [List.getElem?_append_left hlt] at g1
            refine ⟨b, ws, g1, g2, Rps.le (hide_sub fun d h => ?_) _ _ g3⟩
            simp only [List.mem_append, List.cons_append, List.mem_cons] at h ⊢
            rcases h with rfl | h | h
            · rcases List.mem_append.mp hmem with h | h
              · exact .inr (.inl h)
              · exact .inr (.inr h)
            · exact .inl h
            · exact .inr (.inl h)
          · refine Rps.le (hide_sub fun d h => ?_) _ _ h3
            simp only [List.mem_append, List.cons_append, List.mem_cons] at h ⊢
            rcases h with rfl | h | h
            · rcases List.mem_append.mp hmem with h | h
              · exact .inr (.inl h)
              · exact .inr (.inr h)
            · exact .inl h
            · exact .inr (.inl h)
      · cases e
theorem er_start {vs : List Val} {us : List V} {N : List Str} {np ns : Nat} (r : Rvs K Z m H vs us) (h1 : vs.length = np) (h2 : ns = N.length) : ER K Z m H (vs.map some ++ List.replicate (ns - np) none) (start N us) := by
  have hl := r.length
  refine ⟨by simp [L2.start, h2, hl, h1], fun i v e => ?_⟩
  have hi : i < vs.length := by
    by_cases q : i < vs.length
    · exact q
    · rw [List.getElem?_append_right (by simp; omega)] at e
      rw [List.getElem?_replicate] at e
      split at e <;> simp at e
  rw [List.getElem?_append_left (by simpa using hi), List.getElem?_map] at e
  have get : ∀ {vs : List Val} {us : List V} {i : Nat} {v : Val}, Rvs K Z m H vs us → vs[i]? = some v → ∃ u, us[i]? = some u ∧ Rv K Z m H v u := by
    intro vs
    induction vs with
    | nil => intro us i v _ e; simp at e
    | cons w ws ih =>
      intro us i v r e
      simp only [Rvs] at r
      obtain ⟨u, t, rfl, r1, r2⟩ := r
      cases i with
      | zero => simp at e; subst e; exact ⟨u, rfl, r1⟩
      | succ i => simpa using ih r2 (by simpa using e)
  obtain ⟨w, hw, ew⟩ := Option.map_eq_some_iff.mp e
  cases ew
  obtain ⟨u, hu, ru⟩ := get r hw
  refine ⟨u, ?_, ru⟩
  unfold L2.start
  rw [List.getElem?_append_left (by simp; omega), List.getElem?_map, hu]
  rfl
end

section
variable {P : Program} {w : World} {K : PySem.W.Frag} {mg : Str → Option Value} {base : Heap}
theorem runFn_len {cf : Nat → List Val → Sto → Out (Val × Sto)} {d : Fn} {vs : List Val} {S : Sto} {r : Val × Sto} (h : runFn cf d vs S = .ok r) : vs.length = d.np := by
  unfold runFn at h
  split at h
  · assumption
  · cases h
theorem callF_len {G : Nat → Option Fn} {i : Nat} {d : Fn} (hd : G i = some d) {k : Nat} {vs : List Val} {S : Sto} {r : Val × Sto} (h : callF G k i vs S = .ok r) : vs.length = d.np := by
  cases k with
  | zero => simp [callF] at h
  | succ k =>
    simp only [callF, hd] at h
    exact runFn_len h
theorem engine_ok {G : Nat → Option Fn} {ds : Nat → Option Df} {fx : List (Str × Nat)} {fa : Nat → Addr} {fd : Nat → FuncData} (D : ∀ (i : Nat) (d : Df), ds i = some d → DfOk fx d ∧ G i = some d.fn) (hfx : ∀ (x : Str) (f : Nat), fx.lookup x = some f → ∃ d, ds f = some d ∧ d.nm = x)
    (L : ∀ (i : Nat) (d : Df), ds i = some d → Fun K d.nm d.nm d.st (fa i) (fd i) ∧ Binds K (fd i) d.ps [] ∧ mg d.nm = some (.ref (fa i))) (blt : ∀ x ∈ bltNames, fx.lookup x = none → mg x = none) :
    ∀ (k i : Nat) (d : Df), ds i = some d → FnOk P w K mg base CX0 k (fa i) (fd i) d.ps (spF K (callF G k i) d.ps.length) := by
  intro k
  induction k with
  | zero =>
    intro i d hd
    refine ⟨fun vs H Q E h => h.1, fun A outer s H args us vs Q E hr e0 hb hv hs => ?_⟩
    obtain ⟨_, Z, m, S, ws, v, S', sr, rv, e, _⟩ := hs
    simp [callF] at e
  | succ k ih =>
    intro i d hd
    obtain ⟨F, hb, hm⟩ := L i d hd
    obtain ⟨ok, ht⟩ := D i d hd
    refine F.ok ok.sc (fun vs H Q E h => h.1) (fun cdv A outer s H vs Q E hr h => ?_)
    obtain ⟨hlen, Z, m, S, ws, v, S', sr, rv, e, q⟩ := h
    have X : XOk (cxOf CX0 P w K mg base d.N d.nm (defScope d.st) (fa i) cdv A outer s H E).nox ⟨d.N, defScope d.st, none, fx⟩ (callF G k) := {
      sc := rfl
      N := rfl
      nd := ok.sc.nd
      calm := rfl
      fn := fun _ _ => rfl
      xe := rfl
      blt := blt
      room := hr.mono (Nat.zero_le _)
      fns := fun x f hf => by
        obtain ⟨d', hd', hx⟩ := hfx x f hf
        obtain ⟨F', hb', hm'⟩ := L f d' hd'
        rw [hx] at hm'
        exact ⟨k, fa f, fd f, d'.ps, hr, hm', F'.kp, hb', ih f d' hd', fun vs S r h => by rw [callF_len (D f d' hd').2 h]; exact (D f d' hd').1.np⟩ }
    refine ⟨tB K (callF G k) d.fn.body, blk_sound (fun h => trS_sound X ok.sc.kind 30 h) ok.tr, ?_⟩
    simp only [callF, ht] at e
    unfold runFn at e
    split at e
    · rename_i hnp
      obtain ⟨⟨fl, ρ', S1⟩, e1, e⟩ := bind_ok e
      refine ⟨Z, m, _, S, fl, ρ', S1, sr, er_start rv hnp ok.ns, e1, ?_⟩
      dsimp only at e
      cases fl with
      | rt v' =>
        dsimp only at e
        exact fun m' H' u p => q m H' u (Post.handed sr.len p e)
      | nx =>
        dsimp only at e
        cases e
        intro m' σ' H' st sr' er'
        refine q m H' .non ?_
        have := Post.handed (S := S) (S1 := S1) (v' := .pv .non) (v := .pv .non) (u := .non) (mm := m') sr.len ⟨st, sr', by simp only [Rv, Rp]⟩ rfl
        exact this
      | bk => cases e
      | ct => cases e
    · cases e
end
/-- the law's own promise, from what the engine's text computes -/
def spLaw (K : PySem.W.Frag) : Sp := fun vs H Q _ => ∃ (a : Addr) (ns : List Int), vs = [.ref a] ∧ SqL K H a (ns.map V.int) ∧ ns.length ≤ 63 ∧ ∀ H', Q (.bl true) H'
theorem law_from {K : PySem.W.Frag} {g : List Val → Sto → Out (Val × Sto)} (h : ∀ ns : List Int, ns.length ≤ 63 → ∃ S', g [.pv (.scr ns)] [] = .ok (.pv (.bl true), S')) : ∀ vs H Q E, spLaw K vs H Q E → spF K g 1 vs H Q E := by
  rintro vs H Q E ⟨a, ns, rfl, hs, hl, q⟩
  obtain ⟨S', e⟩ := h ns hl
  have h0 : hide ([] ++ []) H = H := by funext b; simp [hide]
  have hS' : S' = [] ∨ True := .inr trivial
  refine ⟨rfl, [], [], [], [.pv (.scr ns)], _, S', ⟨rfl, List.nodup_nil, fun _ h => (by cases h), fun _ h => (by cases h), fun l xs e => (by simp at e)⟩, ?_, e, fun m' H' u p => ?_⟩
  · simp only [Rvs]
    refine ⟨.ref a, [], rfl, ?_, rfl⟩
    show Rp K _ (.scr ns) _
    simp only [Rp]
    exact ⟨a, rfl, by rw [h0]; exact hs⟩
  · have := p.2.2
    simp only [Rv, Rp] at this
    subst this
    exact q H'
end RS

set_option linter.all false
set_option maxRecDepth 100000
namespace RS
open PySem (Str)
/-- 0 word, 1 found, 2 start, 3 end, 4 back -/
def i_cut_of : Fn := ⟨1, 5,
    (.cons (.set (.name 1) (.box (.lst .nil)))
    (.cons (.set (.name 2) (.cst (.int 0)))
    (.cons (.whl (.op2 .lt (.var 2) (.op1 .len (.var 0))) (.cons (.par [3, 4] (.cons (.op2 .add (.var 2) (.cst (.int 1))) (.cons (.var 2) .nil))) (.cons (.whl (.and (.op2 .lt (.var 3) (.op1 .len (.var 0))) (.op2 .le (.op2 .idx (.var 0) (.var 4)) (.op2 .idx (.var 0) (.var 3)))) (.cons (.set (.name 4) (.ite (.op2 .lt (.op2 .idx (.var 0) (.var 4)) (.op2 .idx (.var 0) (.var 3))) (.var 2) (.op2 .add (.var 4) (.cst (.int 1))))) (.cons (.aug 3 .add (.cst (.int 1))) .nil))) (.cons (.whl (.op2 .le (.var 2) (.var 4)) (.cons (.exp (.mut .append (.var 1) (.cons (.slc (.var 0) (.cons (.var 2) .nil) (.cons (.op2 .sub (.op2 .add (.var 2) (.var 3)) (.var 4)) .nil)) .nil))) (.cons (.aug 2 .add (.op2 .sub (.var 3) (.var 4))) .nil))) .nil))))
    (.cons (.ret (.op1 .tuple (.var 1)))
    .nil))))⟩

/-- 0 one, 1 other, 2 least, 3 at, 4 end -/
def i_edit_between : Fn := ⟨2, 5,
    (.cons (.set (.name 2) (.op2 .min (.op1 .len (.var 0)) (.op1 .len (.var 1))))
    (.cons (.set (.name 3) (.cst (.int 0)))
    (.cons (.whl (.and (.op2 .lt (.var 3) (.var 2)) (.op2 .eq (.op2 .idx (.var 0) (.var 3)) (.op2 .idx (.var 1) (.var 3)))) (.cons (.aug 3 .add (.cst (.int 1))) .nil))
    (.cons (.set (.name 4) (.cst (.int 0)))
    (.cons (.whl (.and (.op2 .lt (.var 4) (.op2 .sub (.var 2) (.var 3))) (.op2 .eq (.op2 .idx (.var 0) (.op2 .sub (.op2 .sub (.op1 .len (.var 0)) (.cst (.int 1))) (.var 4))) (.op2 .idx (.var 1) (.op2 .sub (.op2 .sub (.op1 .len (.var 1)) (.cst (.int 1))) (.var 4))))) (.cons (.aug 4 .add (.cst (.int 1))) .nil))
    (.cons (.ret (.tup (.cons (.var 3) (.cons (.op2 .sub (.op2 .sub (.op1 .len (.var 0)) (.var 3)) (.var 4)) (.cons (.slc (.var 1) (.cons (.var 3) .nil) (.cons (.op2 .sub (.op1 .len (.var 1)) (.var 4)) .nil)) .nil)))))
    .nil))))))⟩

/-- 0 word, 1 edit, 2 at, 3 many, 4 letters -/
def i_edited : Fn := ⟨2, 5,
    (.cons (.set (.tup [2, 3, 4]) (.var 1))
    (.cons (.ret (.op2 .add (.op2 .add (.slc (.var 0) .nil (.cons (.var 2) .nil)) (.var 4)) (.slc (.var 0) (.cons (.op2 .add (.var 2) (.var 3)) .nil) .nil)))
    .nil))⟩

/-- 0 word, 1 edit, 2 at, 3 many, 4 letters -/
def i_edit_back : Fn := ⟨2, 5,
    (.cons (.set (.tup [2, 3, 4]) (.var 1))
    (.cons (.ret (.tup (.cons (.var 2) (.cons (.op1 .len (.var 4)) (.cons (.slc (.var 0) (.cons (.var 2) .nil) (.cons (.op2 .add (.var 2) (.var 3)) .nil)) .nil)))))
    .nil))⟩

/-- 0 words, 1 word, 2 found, 3 at -/
def i_ends_of_words : Fn := ⟨1, 4,
    (.cons (.par [2, 3] (.cons (.tup .nil) (.cons (.cst (.int 0)) .nil)))
    (.cons (.for_ (.name 1) (.ex (.var 0)) (.cons (.aug 3 .add (.op1 .len (.var 1))) (.cons (.aug 2 .add (.tup (.cons (.var 3) .nil))) .nil)))
    (.cons (.ret (.var 2))
    .nil)))⟩

/-- 0 cut, 1 edit, 2 ends, 3 ahead, 4 begins, 5 k, 6 end, 7 place -/
def i_words_kept : Fn := ⟨2, 8,
    (.cons (.set (.name 2) (.call 4 (.cons (.var 0) .nil)))
    (.cons (.set (.name 3) (.op1 .len (.comp [6] (.name 6) (.ex (.var 2)) (.cons (.op2 .le (.var 6) (.op2 .idx (.var 1) (.cst (.int 0)))) .nil) (.var 6))))
    (.cons (.set (.name 4) (.comp [5] (.name 5) (.rng (.cons (.var 3) (.cons (.op1 .len (.var 0)) .nil))) .nil (.op2 .sub (.op2 .idx (.var 2) (.var 5)) (.op1 .len (.op2 .idx (.var 0) (.var 5))))))
    (.cons (.ret (.tup (.cons (.var 3) (.cons (.op1 .len (.comp [7] (.name 7) (.ex (.var 4)) (.cons (.op2 .ge (.var 7) (.op2 .add (.op2 .idx (.var 1) (.cst (.int 0))) (.op2 .idx (.var 1) (.cst (.int 1))))) .nil) (.var 7))) .nil))))
    .nil))))⟩

/-- 0 cut, 1 edit, 2 last, 3 middle, 4 word, 5 at, 6 letters, 7 ahead, 8 behind, 9 letter -/
def i_pieces_of : Fn := ⟨2, 10,
    (.cons (.set (.tup [7, 8]) (.call 5 (.cons (.var 0) (.cons (.var 1) .nil))))
    (.cons (.set (.name 2) (.op2 .sub (.op1 .len (.var 0)) (.var 8)))
    (.cons (.set (.name 3) (.tup .nil))
    (.cons (.for_ (.name 4) (.ex (.slc (.var 0) (.cons (.var 7) .nil) (.cons (.var 2) .nil))) (.cons (.aug 3 .add (.var 4)) .nil))
    (.cons (.set (.name 5) (.op2 .sub (.op2 .idx (.var 1) (.cst (.int 0))) (.op1 .sum (.comp [4] (.name 4) (.ex (.slc (.var 0) .nil (.cons (.var 7) .nil))) .nil (.op1 .len (.var 4))))))
    (.cons (.set (.name 6) (.call 2 (.cons (.var 3) (.cons (.tup (.cons (.var 5) (.cons (.op2 .idx (.var 1) (.cst (.int 1))) (.cons (.op2 .idx (.var 1) (.cst (.int 2))) .nil)))) .nil))))
    (.cons (.ret (.op2 .add (.op2 .add (.slc (.var 0) .nil (.cons (.var 7) .nil)) (.op1 .tuple (.comp [9] (.name 9) (.ex (.var 6)) .nil (.tup (.cons (.var 9) .nil))))) (.slc (.var 0) (.cons (.var 2) .nil) .nil)))
    .nil)))))))⟩

/-- 0 words, 1 word -/
def i_put_behind : Fn := ⟨2, 2,
    (.cons (.whl (.and (.op2 .gt (.op1 .len (.var 0)) (.cst (.int 0))) (.op2 .lt (.op2 .idx (.var 0) (.op1 .neg (.cst (.int 1)))) (.var 1))) (.cons (.par [0, 1] (.cons (.slc (.var 0) .nil (.cons (.op1 .neg (.cst (.int 1))) .nil)) (.cons (.op2 .add (.op2 .idx (.var 0) (.op1 .neg (.cst (.int 1)))) (.var 1)) .nil))) .nil))
    (.cons (.ret (.op2 .add (.var 0) (.tup (.cons (.var 1) .nil))))
    .nil))⟩

/-- 0 words, 1 found, 2 word -/
def i_fallen : Fn := ⟨1, 3,
    (.cons (.set (.name 1) (.tup .nil))
    (.cons (.for_ (.name 2) (.ex (.var 0)) (.cons (.set (.name 1) (.call 7 (.cons (.var 1) (.cons (.var 2) .nil)))) .nil))
    (.cons (.ret (.var 1))
    .nil)))⟩

/-- 0 cut, 1 edit -/
def i_mended_cut : Fn := ⟨2, 2,
    (.cons (.ret (.call 8 (.cons (.call 6 (.cons (.var 0) (.cons (.var 1) .nil))) .nil)))
    .nil)⟩

/-- 0 cut, 1 edit -/
def i_joins_of_mending : Fn := ⟨2, 2,
    (.cons (.ret (.op2 .sub (.op1 .len (.call 6 (.cons (.var 0) (.cons (.var 1) .nil)))) (.op1 .len (.call 9 (.cons (.var 0) (.cons (.var 1) .nil))))))
    .nil)⟩

/-- 0 one, 1 other, 2 least, 3 first, 4 last -/
def i_alike_words : Fn := ⟨2, 5,
    (.cons (.set (.name 2) (.op2 .min (.op1 .len (.var 0)) (.op1 .len (.var 1))))
    (.cons (.set (.name 3) (.cst (.int 0)))
    (.cons (.whl (.and (.op2 .lt (.var 3) (.var 2)) (.op2 .eq (.op2 .idx (.var 0) (.var 3)) (.op2 .idx (.var 1) (.var 3)))) (.cons (.aug 3 .add (.cst (.int 1))) .nil))
    (.cons (.set (.name 4) (.cst (.int 0)))
    (.cons (.whl (.and (.op2 .lt (.var 4) (.op2 .sub (.var 2) (.var 3))) (.op2 .eq (.op2 .idx (.var 0) (.op2 .sub (.op2 .sub (.op1 .len (.var 0)) (.cst (.int 1))) (.var 4))) (.op2 .idx (.var 1) (.op2 .sub (.op2 .sub (.op1 .len (.var 1)) (.cst (.int 1))) (.var 4))))) (.cons (.aug 4 .add (.cst (.int 1))) .nil))
    (.cons (.ret (.tup (.cons (.var 3) (.cons (.var 4) .nil))))
    .nil))))))⟩

/-- 0 word, 1 edits, 2 found, 3 edit -/
def i_mended_along : Fn := ⟨2, 4,
    (.cons (.set (.name 2) (.tup (.cons (.call 0 (.cons (.var 0) .nil)) .nil)))
    (.cons (.for_ (.name 3) (.ex (.var 1)) (.cons (.aug 2 .add (.tup (.cons (.call 9 (.cons (.op2 .idx (.var 2) (.op1 .neg (.cst (.int 1)))) (.cons (.var 3) .nil))) .nil))) .nil))
    (.cons (.ret (.var 2))
    .nil)))⟩

/-- 0 script, 1 many, 2 cells, 3 rest, 4 draws, 5 k, 6 at, 7 cell, 8 once -/
def i_law_draws : Fn := ⟨2, 9,
    (.cons (.set (.name 2) (.box (.comp [7] (.name 7) (.ex (.var 0)) .nil (.op1 .int (.var 7)))))
    (.cons (.ifs (.op2 .eq (.op1 .len (.var 2)) (.cst (.int 0))) (.cons (.exp (.mut .append (.var 2) (.cons (.cst (.int 0)) .nil))) .nil) .nil)
    (.cons (.set (.name 3) (.box (.op1 .list (.var 2))))
    (.cons (.set (.name 4) (.box (.lst .nil)))
    (.cons (.for_ (.name 5) (.rng (.cons (.var 1) .nil)) (.cons (.set (.name 6) (.op2 .fmod (.var 5) (.op1 .len (.var 2)))) (.cons (.ifs (.and (.op2 .ge (.op2 .idx (.var 2) (.var 6)) (.op2 .pow (.cst (.int 10)) (.cst (.int 18)))) (.op2 .gt (.op2 .idx (.var 3) (.var 6)) (.cst (.int 0)))) (.cons (.exp (.mut .append (.var 4) (.cons (.op2 .fmod (.op1 .int (.op2 .idx (.var 3) (.var 6))) (.cst (.int 1000))) .nil))) (.cons (.seti (.var 3) (.var 6) (.op2 .fdiv (.op2 .idx (.var 3) (.var 6)) (.cst (.int 1000)))) .nil)) (.cons (.set (.name 8) (.op2 .fmod (.op1 .int (.op2 .add (.op2 .add (.op2 .mul (.op2 .idx (.var 2) (.var 6)) (.cst (.int 48271))) (.op2 .mul (.var 5) (.cst (.int 69621)))) (.cst (.int 11)))) (.cst (.int 2147483647)))) (.cons (.exp (.mut .append (.var 4) (.cons (.op2 .fmod (.op1 .int (.op2 .add (.op2 .add (.op2 .mul (.var 8) (.var 8)) (.op2 .mul (.cst (.int 3)) (.var 8))) (.var 5))) (.cst (.int 1000003))) .nil))) .nil))) .nil)))
    (.cons (.exp (.mut .reverse (.var 4) .nil))
    (.cons (.ret (.var 4))
    .nil)))))))⟩

/-- 0 draws, 1 many -/
def i_law_take : Fn := ⟨2, 2,
    (.cons (.ifs (.op2 .eq (.op1 .len (.var 0)) (.cst (.int 0))) (.cons (.ret (.cst (.int 0))) .nil) .nil)
    (.cons (.ret (.op2 .fmod (.op1 .int (.mut .pop (.var 0) .nil)) (.var 1)))
    .nil))⟩

/-- 0 actual, 1 due, 2 k -/
def i_law_same : Fn := ⟨2, 3,
    (.cons (.ifs (.op1 (.isi .bool) (.var 1)) (.cons (.ret (.and (.op1 (.isi .bool) (.var 0)) (.op2 .eq (.var 0) (.var 1)))) .nil) .nil)
    (.cons (.ifs (.op1 (.isi .int) (.var 1)) (.cons (.ret (.and (.op1 (.isi .int) (.var 0)) (.and (.op1 .not (.op1 (.isi .bool) (.var 0))) (.op2 .eq (.var 0) (.var 1))))) .nil) .nil)
    (.cons (.ifs (.op1 (.isi .str) (.var 1)) (.cons (.ret (.and (.op1 (.isi .str) (.var 0)) (.op2 .eq (.var 0) (.var 1)))) .nil) .nil)
    (.cons (.ifs (.op1 .isNon (.var 1)) (.cons (.ret (.op1 .isNon (.var 0))) .nil) .nil)
    (.cons (.ifs (.or (.op1 .not (.op1 (.isi .tuple) (.var 0))) (.op2 .ne (.op1 .len (.var 0)) (.op1 .len (.var 1)))) (.cons (.ret (.cst (.bl false))) .nil) .nil)
    (.cons (.for_ (.name 2) (.rng (.cons (.op1 .len (.var 1)) .nil)) (.cons (.ifs (.op1 .not (.call 15 (.cons (.op2 .idx (.var 0) (.var 2)) (.cons (.op2 .idx (.var 1) (.var 2)) .nil)))) (.cons (.ret (.cst (.bl false))) .nil) .nil) .nil))
    (.cons (.ret (.cst (.bl true)))
    .nil)))))))⟩

/-- 0 draws, 1 row, 2 left, 3 found, 4 k -/
def i_law_mixed : Fn := ⟨2, 5,
    (.cons (.set (.name 2) (.box (.op1 .list (.var 1))))
    (.cons (.set (.name 3) (.box (.lst .nil)))
    (.cons (.for_ (.name 4) (.rng (.cons (.op1 .len (.var 1)) .nil)) (.cons (.exp (.mut .append (.var 3) (.cons (.mut .popAt (.var 2) (.cons (.call 14 (.cons (.var 0) (.cons (.op1 .len (.var 2)) .nil))) .nil)) .nil))) .nil))
    (.cons (.ret (.op1 .tuple (.var 3)))
    .nil))))⟩

/-- 0 word, 1 k -/
def i_law_is_least : Fn := ⟨1, 2,
    (.cons (.ret (.and (.op2 .gt (.op1 .len (.var 0)) (.cst (.int 0))) (.op2 .eq (.op1 .len (.comp [1] (.name 1) (.rng (.cons (.cst (.int 1)) (.cons (.op1 .len (.var 0)) .nil))) (.cons (.op2 .le (.op2 .add (.slc (.var 0) (.cons (.var 1) .nil) .nil) (.slc (.var 0) .nil (.cons (.var 1) .nil))) (.var 0)) .nil) (.var 1))) (.cst (.int 0)))))
    .nil)⟩

/-- 0 word, 1 found, 2 step, 3 many, 4 k -/
def i_law_cut : Fn := ⟨1, 5,
    (.cons (.set (.name 1) (.box (.lst .nil)))
    (.cons (.for_ (.name 2) (.rng (.cons (.op1 .len (.var 0)) .nil)) (.cons (.ifs (.op2 .gt (.op1 .len (.var 0)) (.cst (.int 0))) (.cons (.set (.name 3) (.op1 .max (.comp [4] (.name 4) (.rng (.cons (.cst (.int 1)) (.cons (.op2 .add (.op1 .len (.var 0)) (.cst (.int 1))) .nil))) (.cons (.call 17 (.cons (.slc (.var 0) .nil (.cons (.var 4) .nil)) .nil)) .nil) (.var 4)))) (.cons (.exp (.mut .append (.var 1) (.cons (.slc (.var 0) .nil (.cons (.var 3) .nil)) .nil))) (.cons (.set (.name 0) (.slc (.var 0) (.cons (.var 3) .nil) .nil)) .nil))) .nil) .nil))
    (.cons (.ret (.op1 .tuple (.var 1)))
    .nil)))⟩

/-- 0 draws, 1 many, 2 style, 3 found, 4 letter, 5 k, 6 part -/
def i_law_word : Fn := ⟨2, 7,
    (.cons (.set (.name 2) (.call 14 (.cons (.var 0) (.cons (.cst (.int 4)) .nil))))
    (.cons (.ifs (.op2 .eq (.var 2) (.cst (.int 0))) (.cons (.ret (.op1 .tuple (.comp [5] (.name 5) (.rng (.cons (.var 1) .nil)) .nil (.call 14 (.cons (.var 0) (.cons (.cst (.int 2)) .nil)))))) .nil) .nil)
    (.cons (.set (.name 3) (.tup .nil))
    (.cons (.ifs (.op2 .eq (.var 2) (.cst (.int 1))) (.cons (.set (.name 4) (.call 14 (.cons (.var 0) (.cons (.cst (.int 2)) .nil)))) (.cons (.for_ (.name 5) (.rng (.cons (.var 1) .nil)) (.cons (.set (.name 4) (.ite (.op2 .gt (.call 14 (.cons (.var 0) (.cons (.cst (.int 3)) .nil))) (.cst (.int 0))) (.var 4) (.op2 .sub (.cst (.int 1)) (.var 4)))) (.cons (.set (.name 3) (.op2 .add (.var 3) (.tup (.cons (.var 4) .nil)))) .nil))) (.cons (.ret (.var 3)) .nil))) .nil)
    (.cons (.ifs (.op2 .eq (.var 2) (.cst (.int 2))) (.cons (.set (.name 6) (.op1 .tuple (.comp [5] (.name 5) (.rng (.cons (.op2 .add (.cst (.int 1)) (.call 14 (.cons (.var 0) (.cons (.cst (.int 4)) .nil)))) .nil)) .nil (.call 14 (.cons (.var 0) (.cons (.cst (.int 2)) .nil)))))) (.cons (.ret (.slc (.op2 .mul (.var 6) (.op2 .add (.var 1) (.cst (.int 1)))) .nil (.cons (.var 1) .nil))) .nil)) .nil)
    (.cons (.ret (.op1 .tuple (.comp [5] (.name 5) (.rng (.cons (.var 1) .nil)) .nil (.op1 .int (.op2 .eq (.call 14 (.cons (.var 0) (.cons (.cst (.int 5)) .nil))) (.cst (.int 0)))))))
    .nil))))))⟩

/-- 0 one, 1 other, 2 at, 3 end, 4 left, 5 right, 6 k -/
def i_law_edit_between : Fn := ⟨2, 7,
    (.cons (.set (.name 2) (.op1 .max (.comp [6] (.name 6) (.rng (.cons (.op2 .add (.op2 .min (.op1 .len (.var 0)) (.op1 .len (.var 1))) (.cst (.int 1))) .nil)) (.cons (.op2 .eq (.slc (.var 0) .nil (.cons (.var 6) .nil)) (.slc (.var 1) .nil (.cons (.var 6) .nil))) .nil) (.var 6))))
    (.cons (.par [4, 5] (.cons (.slc (.var 0) (.cons (.var 2) .nil) .nil) (.cons (.slc (.var 1) (.cons (.var 2) .nil) .nil) .nil)))
    (.cons (.set (.name 3) (.op1 .max (.comp [6] (.name 6) (.rng (.cons (.op2 .add (.op2 .min (.op1 .len (.var 4)) (.op1 .len (.var 5))) (.cst (.int 1))) .nil)) (.cons (.op2 .eq (.slc (.var 4) (.cons (.op2 .sub (.op1 .len (.var 4)) (.var 6)) .nil) .nil) (.slc (.var 5) (.cons (.op2 .sub (.op1 .len (.var 5)) (.var 6)) .nil) .nil)) .nil) (.var 6))))
    (.cons (.ret (.tup (.cons (.var 2) (.cons (.op2 .sub (.op1 .len (.var 4)) (.var 3)) (.cons (.slc (.var 5) .nil (.cons (.op2 .sub (.op1 .len (.var 5)) (.var 3)) .nil)) .nil)))))
    .nil))))⟩

/-- 0 word, 1 edit -/
def i_law_edited : Fn := ⟨2, 2,
    (.cons (.ret (.op2 .add (.op2 .add (.slc (.var 0) .nil (.cons (.op2 .idx (.var 1) (.cst (.int 0))) .nil)) (.op2 .idx (.var 1) (.cst (.int 2)))) (.slc (.var 0) (.cons (.op2 .add (.op2 .idx (.var 1) (.cst (.int 0))) (.op2 .idx (.var 1) (.cst (.int 1)))) .nil) .nil)))
    .nil)⟩

/-- 0 cut, 1 edit, 2 word, 3 ahead, 4 behind, 5 part, 6 later, 7 letters, 8 at, 9 places, 10 first, 11 last, 12 k, 13 letter -/
def i_law_pieces : Fn := ⟨2, 14,
    (.cons (.par [8, 3, 4, 9] (.cons (.cst (.int 0)) (.cons (.lst .nil) (.cons (.lst .nil) (.cons (.box (.lst .nil)) .nil)))))
    (.cons (.for_ (.name 2) (.ex (.var 0)) (.cons (.exp (.mut .append (.var 9) (.cons (.tup (.cons (.var 8) (.cons (.op2 .add (.var 8) (.op1 .len (.var 2))) .nil))) .nil))) (.cons (.set (.name 8) (.op2 .add (.var 8) (.op1 .len (.var 2)))) .nil)))
    (.cons (.set (.name 3) (.comp [12] (.name 12) (.rng (.cons (.op1 .len (.var 0)) .nil)) (.cons (.op2 .le (.op2 .idx (.op2 .idx (.var 9) (.var 12)) (.cst (.int 1))) (.op2 .idx (.var 1) (.cst (.int 0)))) .nil) (.op2 .idx (.var 0) (.var 12))))
    (.cons (.set (.name 4) (.comp [12] (.name 12) (.rng (.cons (.op1 .len (.var 0)) .nil)) (.cons (.and (.op2 .gt (.op2 .idx (.op2 .idx (.var 9) (.var 12)) (.cst (.int 1))) (.op2 .idx (.var 1) (.cst (.int 0)))) (.op2 .ge (.op2 .idx (.op2 .idx (.var 9) (.var 12)) (.cst (.int 0))) (.op2 .add (.op2 .idx (.var 1) (.cst (.int 0))) (.op2 .idx (.var 1) (.cst (.int 1)))))) .nil) (.op2 .idx (.var 0) (.var 12))))
    (.cons (.set (.name 2) (.tup .nil))
    (.cons (.for_ (.name 5) (.ex (.var 0)) (.cons (.set (.name 2) (.op2 .add (.var 2) (.var 5))) .nil))
    (.cons (.set (.name 6) (.call 21 (.cons (.var 2) (.cons (.var 1) .nil))))
    (.cons (.par [10, 11] (.cons (.op1 .sum (.op2 .add (.lst (.cons (.cst (.int 0)) .nil)) (.comp [5] (.name 5) (.ex (.var 3)) .nil (.op1 .len (.var 5))))) (.cons (.op1 .sum (.op2 .add (.lst (.cons (.cst (.int 0)) .nil)) (.comp [5] (.name 5) (.ex (.var 4)) .nil (.op1 .len (.var 5))))) .nil)))
    (.cons (.set (.name 7) (.slc (.var 6) (.cons (.var 10) .nil) (.cons (.op2 .sub (.op1 .len (.var 6)) (.var 11)) .nil)))
    (.cons (.ret (.tup (.cons (.op1 .len (.var 3)) (.cons (.op1 .len (.var 4)) (.cons (.op2 .add (.op2 .add (.op1 .tuple (.var 3)) (.op1 .tuple (.comp [13] (.name 13) (.ex (.var 7)) .nil (.tup (.cons (.var 13) .nil))))) (.op1 .tuple (.var 4))) .nil)))))
    .nil))))))))))⟩

/-- 0 draws, 1 many, 2 pick, 3 at, 4 most, 5 out, 6 k -/
def i_law_edit : Fn := ⟨2, 7,
    (.cons (.set (.name 2) (.call 14 (.cons (.var 0) (.cons (.cst (.int 6)) .nil))))
    (.cons (.set (.name 3) (.op2 .idx (.lst (.cons (.cst (.int 0)) (.cons (.var 1) (.cons (.cst (.int 0)) (.cons (.call 14 (.cons (.var 0) (.cons (.op2 .add (.var 1) (.cst (.int 1))) .nil))) (.cons (.call 14 (.cons (.var 0) (.cons (.op2 .add (.var 1) (.cst (.int 1))) .nil))) (.cons (.call 14 (.cons (.var 0) (.cons (.op2 .add (.var 1) (.cst (.int 1))) .nil))) .nil))))))) (.var 2)))
    (.cons (.set (.name 4) (.op2 .min (.op2 .sub (.var 1) (.var 3)) (.cst (.int 5))))
    (.cons (.set (.name 5) (.op2 .idx (.lst (.cons (.var 4) (.cons (.cst (.int 0)) (.cons (.var 1) (.cons (.cst (.int 0)) (.cons (.call 14 (.cons (.var 0) (.cons (.op2 .add (.var 4) (.cst (.int 1))) .nil))) (.cons (.call 14 (.cons (.var 0) (.cons (.op2 .add (.var 4) (.cst (.int 1))) .nil))) .nil))))))) (.var 2)))
    (.cons (.ret (.tup (.cons (.var 3) (.cons (.var 5) (.cons (.op1 .tuple (.comp [6] (.name 6) (.rng (.cons (.call 14 (.cons (.var 0) (.cons (.cst (.int 5)) .nil))) .nil)) .nil (.call 14 (.cons (.var 0) (.cons (.cst (.int 2)) .nil))))) .nil)))))
    .nil)))))⟩

/-- 0 words, 1 found, 2 word -/
def i_law_joined : Fn := ⟨1, 3,
    (.cons (.set (.name 1) (.tup .nil))
    (.cons (.for_ (.name 2) (.ex (.var 0)) (.cons (.set (.name 1) (.op2 .add (.var 1) (.var 2))) .nil))
    (.cons (.ret (.var 1))
    .nil)))⟩

/-- 0 one, 1 other, 2 edit -/
def i_law_alike : Fn := ⟨2, 3,
    (.cons (.set (.name 2) (.call 20 (.cons (.op1 .tuple (.var 0)) (.cons (.op1 .tuple (.var 1)) .nil))))
    (.cons (.ret (.tup (.cons (.op2 .idx (.var 2) (.cst (.int 0))) (.cons (.op2 .sub (.op2 .sub (.op1 .len (.var 0)) (.op2 .idx (.var 2) (.cst (.int 0)))) (.op2 .idx (.var 2) (.cst (.int 1)))) .nil))))
    .nil))⟩

/-- 0 draws, 1 word, 2 edit, 3 back, 4 due, 5 between, 6 later, 7 cut, 8 ahead, 9 behind, 10 pieces, 11 end, 12 k, 13 part -/
def i_law_is_edit_told : Fn := ⟨3, 14,
    (.cons (.par [6, 7] (.cons (.call 21 (.cons (.var 1) (.cons (.var 2) .nil))) (.cons (.call 18 (.cons (.var 1) .nil)) .nil)))
    (.cons (.set (.name 3) (.tup (.cons (.op2 .idx (.var 2) (.cst (.int 0))) (.cons (.op1 .len (.op2 .idx (.var 2) (.cst (.int 2)))) (.cons (.slc (.var 1) (.cons (.op2 .idx (.var 2) (.cst (.int 0))) .nil) (.cons (.op2 .add (.op2 .idx (.var 2) (.cst (.int 0))) (.op2 .idx (.var 2) (.cst (.int 1)))) .nil)) .nil)))))
    (.cons (.ifs (.op1 .not (.call 15 (.cons (.tup (.cons (.call 2 (.cons (.var 1) (.cons (.var 2) .nil))) (.cons (.call 3 (.cons (.var 1) (.cons (.var 2) .nil))) (.cons (.call 2 (.cons (.var 6) (.cons (.var 3) .nil))) .nil)))) (.cons (.tup (.cons (.var 6) (.cons (.var 3) (.cons (.var 1) .nil)))) .nil)))) (.cons (.ret (.cst (.bl false))) .nil) .nil)
    (.cons (.set (.tup [8, 9, 10]) (.call 22 (.cons (.var 7) (.cons (.var 2) .nil))))
    (.cons (.set (.name 4) (.call 18 (.cons (.var 6) .nil)))
    (.cons (.ifs (.op1 .not (.call 15 (.cons (.tup (.cons (.call 5 (.cons (.var 7) (.cons (.var 2) .nil))) (.cons (.call 6 (.cons (.var 7) (.cons (.var 2) .nil))) (.cons (.call 9 (.cons (.var 7) (.cons (.var 2) .nil))) .nil)))) (.cons (.tup (.cons (.tup (.cons (.var 8) (.cons (.var 9) .nil))) (.cons (.var 10) (.cons (.var 4) .nil)))) .nil)))) (.cons (.ret (.cst (.bl false))) .nil) .nil)
    (.cons (.ifs (.op1 .not (.call 15 (.cons (.tup (.cons (.call 10 (.cons (.var 7) (.cons (.var 2) .nil))) (.cons (.call 11 (.cons (.var 7) (.cons (.var 4) .nil))) (.cons (.call 11 (.cons (.var 4) (.cons (.var 7) .nil))) .nil)))) (.cons (.tup (.cons (.op2 .sub (.op1 .len (.var 10)) (.op1 .len (.var 4))) (.cons (.call 25 (.cons (.var 7) (.cons (.var 4) .nil))) (.cons (.call 25 (.cons (.var 4) (.cons (.var 7) .nil))) .nil)))) .nil)))) (.cons (.ret (.cst (.bl false))) .nil) .nil)
    (.cons (.set (.name 5) (.call 20 (.cons (.var 1) (.cons (.var 6) .nil))))
    (.cons (.ifs (.op1 .not (.call 15 (.cons (.tup (.cons (.call 1 (.cons (.var 1) (.cons (.var 6) .nil))) (.cons (.call 2 (.cons (.var 1) (.cons (.call 1 (.cons (.var 1) (.cons (.var 6) .nil))) .nil))) .nil))) (.cons (.tup (.cons (.var 5) (.cons (.var 6) .nil))) .nil)))) (.cons (.ret (.cst (.bl false))) .nil) .nil)
    (.cons (.ret (.op2 .eq (.op1 .len (.comp [11] (.name 11) (.ex (.comp [12] (.name 12) (.rng (.cons (.cst (.int 1)) (.cons (.op2 .add (.op1 .len (.var 4)) (.cst (.int 1))) .nil))) .nil (.op1 .sum (.op2 .add (.lst (.cons (.cst (.int 0)) .nil)) (.comp [13] (.name 13) (.ex (.slc (.var 4) .nil (.cons (.var 12) .nil))) .nil (.op1 .len (.var 13))))))) (.cons (.op2 .notIn (.var 11) (.call 4 (.cons (.var 4) .nil))) .nil) (.var 11))) (.cst (.int 0))))
    .nil))))))))))⟩

/-- 0 draws, 1 word, 2 parts, 3 row, 4 ends, 5 cut, 6 part, 7 k -/
def i_law_are_rows_told : Fn := ⟨2, 8,
    (.cons (.set (.name 2) (.op2 .add (.comp [6] (.name 6) (.ex (.call 18 (.cons (.var 1) .nil))) .nil (.var 6)) (.comp [7] (.name 7) (.rng (.cons (.call 14 (.cons (.var 0) (.cons (.cst (.int 4)) .nil))) .nil)) .nil (.op2 .idx (.call 18 (.cons (.call 19 (.cons (.var 0) (.cons (.cst (.int 4)) .nil))) .nil)) (.cst (.int 0))))))
    (.cons (.set (.name 3) (.call 16 (.cons (.var 0) (.cons (.var 2) .nil))))
    (.cons (.set (.name 4) (.op1 .tuple (.comp [7] (.name 7) (.rng (.cons (.op1 .len (.var 3)) .nil)) .nil (.op1 .sum (.comp [6] (.name 6) (.ex (.slc (.var 3) .nil (.cons (.op2 .add (.var 7) (.cst (.int 1))) .nil))) .nil (.op1 .len (.var 6)))))))
    (.cons (.ifs (.op1 .not (.call 15 (.cons (.tup (.cons (.call 8 (.cons (.var 3) .nil)) (.cons (.call 4 (.cons (.var 3) .nil)) .nil))) (.cons (.tup (.cons (.call 18 (.cons (.call 24 (.cons (.var 3) .nil)) .nil)) (.cons (.var 4) .nil))) .nil)))) (.cons (.ret (.cst (.bl false))) .nil) .nil)
    (.cons (.set (.name 5) (.call 18 (.cons (.var 1) .nil)))
    (.cons (.for_ (.name 6) (.ex (.op2 .add (.var 3) (.tup (.cons (.tup (.cons (.cst (.int 0)) .nil)) (.cons (.tup (.cons (.cst (.int 1)) .nil)) (.cons (.tup (.cons (.cst (.int 0)) (.cons (.cst (.int 1)) .nil))) .nil)))))) (.cons (.ifs (.op1 .not (.call 15 (.cons (.call 7 (.cons (.var 5) (.cons (.var 6) .nil))) (.cons (.call 18 (.cons (.op2 .add (.var 1) (.var 6)) .nil)) .nil)))) (.cons (.ret (.cst (.bl false))) .nil) .nil) .nil))
    (.cons (.ret (.cst (.bl true)))
    .nil)))))))⟩

/-- 0 script, 1 draws, 2 turn, 3 word, 4 cut, 5 k, 6 other, 7 edits, 8 cuts, 9 here, 10 edit, 11 one, 12 two -/
def i_law : Fn := ⟨1, 13,
    (.cons (.set (.name 1) (.box (.call 13 (.cons (.var 0) (.cons (.cst (.int 470)) .nil)))))
    (.cons (.for_ (.name 2) (.rng (.cons (.cst (.int 4)) .nil)) (.cons (.set (.name 3) (.call 19 (.cons (.var 1) (.cons (.op2 .idx (.lst (.cons (.call 14 (.cons (.var 1) (.cons (.cst (.int 4)) .nil))) (.cons (.cst (.int 8)) (.cons (.call 14 (.cons (.var 1) (.cons (.cst (.int 17)) .nil))) (.cons (.cst (.int 16)) .nil))))) (.var 2)) .nil)))) (.cons (.ifs (.op1 .not (.call 27 (.cons (.var 1) (.cons (.var 3) .nil)))) (.cons (.ret (.cst (.bl false))) .nil) .nil) (.cons (.par [7, 8, 9] (.cons (.tup .nil) (.cons (.tup (.cons (.call 18 (.cons (.var 3) .nil)) .nil)) (.cons (.var 3) .nil)))) (.cons (.for_ (.name 5) (.rng (.cons (.cst (.int 4)) .nil)) (.cons (.set (.name 10) (.call 23 (.cons (.var 1) (.cons (.op1 .len (.var 9)) .nil)))) (.cons (.ifs (.op1 .not (.call 26 (.cons (.var 1) (.cons (.var 9) (.cons (.var 10) .nil))))) (.cons (.ret (.cst (.bl false))) .nil) .nil) (.cons (.par [7, 9] (.cons (.op2 .add (.var 7) (.tup (.cons (.var 10) .nil))) (.cons (.call 21 (.cons (.var 9) (.cons (.var 10) .nil))) .nil))) (.cons (.set (.name 8) (.op2 .add (.var 8) (.tup (.cons (.call 18 (.cons (.var 9) .nil)) .nil)))) .nil))))) (.cons (.ifs (.op1 .not (.call 15 (.cons (.call 12 (.cons (.var 3) (.cons (.var 7) .nil))) (.cons (.var 8) .nil)))) (.cons (.ret (.cst (.bl false))) .nil) .nil) (.cons (.set (.name 6) (.call 19 (.cons (.var 1) (.cons (.call 14 (.cons (.var 1) (.cons (.cst (.int 9)) .nil))) .nil)))) (.cons (.for_ (.tup [11, 12]) (.ex (.lst (.cons (.tup (.cons (.var 3) (.cons (.var 6) .nil))) (.cons (.tup (.cons (.var 3) (.cons (.var 3) .nil))) (.cons (.tup (.cons (.var 3) (.cons (.op2 .add (.var 3) (.var 6)) .nil))) (.cons (.tup (.cons (.var 3) (.cons (.op2 .add (.var 6) (.var 3)) .nil))) (.cons (.tup (.cons (.op2 .add (.var 3) (.var 6)) (.cons (.var 6) .nil))) (.cons (.tup (.cons (.tup .nil) (.cons (.var 6) .nil))) .nil)))))))) (.cons (.ifs (.op1 .not (.call 15 (.cons (.call 1 (.cons (.var 11) (.cons (.var 12) .nil))) (.cons (.call 20 (.cons (.var 11) (.cons (.var 12) .nil))) .nil)))) (.cons (.ret (.cst (.bl false))) .nil) .nil) .nil)) .nil))))))))
    (.cons (.set (.name 3) (.tup (.cons (.cst (.int 0)) (.cons (.cst (.int 1)) (.cons (.cst (.int 1)) (.cons (.cst (.int 0)) (.cons (.cst (.int 1)) (.cons (.cst (.int 0)) (.cons (.cst (.int 0)) (.cons (.cst (.int 1)) (.cons (.cst (.int 0)) .nil)))))))))))
    (.cons (.set (.name 4) (.tup (.cons (.tup (.cons (.cst (.int 0)) (.cons (.cst (.int 1)) (.cons (.cst (.int 1)) .nil)))) (.cons (.tup (.cons (.cst (.int 0)) (.cons (.cst (.int 1)) .nil))) (.cons (.tup (.cons (.cst (.int 0)) (.cons (.cst (.int 0)) (.cons (.cst (.int 1)) .nil)))) (.cons (.tup (.cons (.cst (.int 0)) .nil)) .nil))))))
    (.cons (.ifs (.op1 .not (.call 15 (.cons (.tup (.cons (.call 5 (.cons (.var 4) (.cons (.tup (.cons (.cst (.int 4)) (.cons (.cst (.int 1)) (.cons (.tup .nil) .nil)))) .nil))) (.cons (.call 6 (.cons (.var 4) (.cons (.tup (.cons (.cst (.int 4)) (.cons (.cst (.int 1)) (.cons (.tup (.cons (.cst (.int 1)) (.cons (.cst (.int 1)) .nil))) .nil)))) .nil))) (.cons (.call 9 (.cons (.var 4) (.cons (.tup (.cons (.cst (.int 4)) (.cons (.cst (.int 1)) (.cons (.tup (.cons (.cst (.int 1)) (.cons (.cst (.int 1)) .nil))) .nil)))) .nil))) .nil)))) (.cons (.tup (.cons (.tup (.cons (.cst (.int 1)) (.cons (.cst (.int 2)) .nil))) (.cons (.tup (.cons (.tup (.cons (.cst (.int 0)) (.cons (.cst (.int 1)) (.cons (.cst (.int 1)) .nil)))) (.cons (.tup (.cons (.cst (.int 0)) .nil)) (.cons (.tup (.cons (.cst (.int 1)) .nil)) (.cons (.tup (.cons (.cst (.int 1)) .nil)) (.cons (.tup (.cons (.cst (.int 0)) (.cons (.cst (.int 0)) (.cons (.cst (.int 1)) .nil)))) (.cons (.tup (.cons (.cst (.int 0)) .nil)) .nil))))))) (.cons (.tup (.cons (.tup (.cons (.cst (.int 0)) (.cons (.cst (.int 1)) (.cons (.cst (.int 1)) .nil)))) (.cons (.tup (.cons (.cst (.int 0)) (.cons (.cst (.int 1)) (.cons (.cst (.int 1)) .nil)))) (.cons (.tup (.cons (.cst (.int 0)) (.cons (.cst (.int 0)) (.cons (.cst (.int 1)) .nil)))) (.cons (.tup (.cons (.cst (.int 0)) .nil)) .nil))))) .nil)))) .nil)))) (.cons (.ret (.cst (.bl false))) .nil) .nil)
    (.cons (.ifs (.op1 .not (.call 15 (.cons (.tup (.cons (.call 10 (.cons (.var 4) (.cons (.tup (.cons (.cst (.int 4)) (.cons (.cst (.int 1)) (.cons (.tup (.cons (.cst (.int 1)) (.cons (.cst (.int 1)) .nil))) .nil)))) .nil))) (.cons (.call 5 (.cons (.var 4) (.cons (.tup (.cons (.cst (.int 3)) (.cons (.cst (.int 0)) (.cons (.tup (.cons (.cst (.int 1)) .nil)) .nil)))) .nil))) (.cons (.call 9 (.cons (.var 4) (.cons (.tup (.cons (.cst (.int 3)) (.cons (.cst (.int 0)) (.cons (.tup (.cons (.cst (.int 1)) .nil)) .nil)))) .nil))) (.cons (.call 9 (.cons (.var 4) (.cons (.tup (.cons (.cst (.int 0)) (.cons (.cst (.int 9)) (.cons (.tup .nil) .nil)))) .nil))) .nil))))) (.cons (.tup (.cons (.cst (.int 2)) (.cons (.tup (.cons (.cst (.int 1)) (.cons (.cst (.int 3)) .nil))) (.cons (.tup (.cons (.tup (.cons (.cst (.int 0)) (.cons (.cst (.int 1)) (.cons (.cst (.int 1)) (.cons (.cst (.int 1)) .nil))))) (.cons (.tup (.cons (.cst (.int 0)) (.cons (.cst (.int 1)) .nil))) (.cons (.tup (.cons (.cst (.int 0)) (.cons (.cst (.int 0)) (.cons (.cst (.int 1)) .nil)))) (.cons (.tup (.cons (.cst (.int 0)) .nil)) .nil))))) (.cons (.tup .nil) .nil))))) .nil)))) (.cons (.ret (.cst (.bl false))) .nil) .nil)
    (.cons (.ifs (.op1 .not (.call 15 (.cons (.tup (.cons (.call 11 (.cons (.var 4) (.cons (.var 4) .nil))) (.cons (.call 11 (.cons (.var 4) (.cons (.slc (.var 4) (.cons (.cst (.int 1)) .nil) .nil) .nil))) (.cons (.call 11 (.cons (.op2 .add (.var 4) (.slc (.var 4) (.cons (.cst (.int 3)) .nil) .nil)) (.cons (.var 4) .nil))) (.cons (.call 1 (.cons (.tup (.cons (.cst (.int 0)) (.cons (.cst (.int 1)) (.cons (.cst (.int 0)) (.cons (.cst (.int 1)) .nil))))) (.cons (.tup (.cons (.cst (.int 0)) (.cons (.cst (.int 1)) .nil))) .nil))) .nil))))) (.cons (.tup (.cons (.tup (.cons (.cst (.int 4)) (.cons (.cst (.int 0)) .nil))) (.cons (.tup (.cons (.cst (.int 0)) (.cons (.cst (.int 3)) .nil))) (.cons (.tup (.cons (.cst (.int 4)) (.cons (.cst (.int 0)) .nil))) (.cons (.tup (.cons (.cst (.int 2)) (.cons (.cst (.int 2)) (.cons (.tup .nil) .nil)))) .nil))))) .nil)))) (.cons (.ret (.cst (.bl false))) .nil) .nil)
    (.cons (.ret (.call 15 (.cons (.tup (.cons (.call 12 (.cons (.var 3) (.cons (.tup .nil) .nil))) (.cons (.call 4 (.cons (.var 4) .nil)) (.cons (.call 4 (.cons (.tup .nil) .nil)) (.cons (.call 8 (.cons (.tup .nil) .nil)) (.cons (.call 9 (.cons (.tup .nil) (.cons (.tup (.cons (.cst (.int 0)) (.cons (.cst (.int 0)) (.cons (.tup (.cons (.cst (.int 0)) (.cons (.cst (.int 1)) .nil))) .nil)))) .nil))) (.cons (.call 1 (.cons (.tup .nil) (.cons (.tup .nil) .nil))) .nil))))))) (.cons (.tup (.cons (.tup (.cons (.var 4) .nil)) (.cons (.tup (.cons (.cst (.int 3)) (.cons (.cst (.int 5)) (.cons (.cst (.int 8)) (.cons (.cst (.int 9)) .nil))))) (.cons (.tup .nil) (.cons (.tup .nil) (.cons (.tup (.cons (.tup (.cons (.cst (.int 0)) (.cons (.cst (.int 1)) .nil))) .nil)) (.cons (.tup (.cons (.cst (.int 0)) (.cons (.cst (.int 0)) (.cons (.tup .nil) .nil)))) .nil))))))) .nil))))
    .nil))))))))⟩

def tbl : List (Nat × Fn) := [(0, i_cut_of), (1, i_edit_between), (2, i_edited), (3, i_edit_back), (4, i_ends_of_words), (5, i_words_kept), (6, i_pieces_of), (7, i_put_behind), (8, i_fallen), (9, i_mended_cut), (10, i_joins_of_mending), (11, i_alike_words), (12, i_mended_along), (13, i_law_draws), (14, i_law_take), (15, i_law_same), (16, i_law_mixed), (17, i_law_is_least), (18, i_law_cut), (19, i_law_word), (20, i_law_edit_between), (21, i_law_edited), (22, i_law_pieces), (23, i_law_edit), (24, i_law_joined), (25, i_law_alike), (26, i_law_is_edit_told), (27, i_law_are_rows_told), (28, i_law)]
def G (n : Nat) : Option Fn := tbl.lookup n
theorem G_cut_of : G 0 = some i_cut_of := by rfl
theorem G_edit_between : G 1 = some i_edit_between := by rfl
theorem G_edited : G 2 = some i_edited := by rfl
theorem G_edit_back : G 3 = some i_edit_back := by rfl
theorem G_ends_of_words : G 4 = some i_ends_of_words := by rfl
theorem G_words_kept : G 5 = some i_words_kept := by rfl
theorem G_pieces_of : G 6 = some i_pieces_of := by rfl
theorem G_put_behind : G 7 = some i_put_behind := by rfl
theorem G_fallen : G 8 = some i_fallen := by rfl
theorem G_mended_cut : G 9 = some i_mended_cut := by rfl
theorem G_joins_of_mending : G 10 = some i_joins_of_mending := by rfl
theorem G_alike_words : G 11 = some i_alike_words := by rfl
theorem G_mended_along : G 12 = some i_mended_along := by rfl
theorem G_law_draws : G 13 = some i_law_draws := by rfl
theorem G_law_take : G 14 = some i_law_take := by rfl
theorem G_law_same : G 15 = some i_law_same := by rfl
theorem G_law_mixed : G 16 = some i_law_mixed := by rfl
theorem G_law_is_least : G 17 = some i_law_is_least := by rfl
theorem G_law_cut : G 18 = some i_law_cut := by rfl
theorem G_law_word : G 19 = some i_law_word := by rfl
theorem G_law_edit_between : G 20 = some i_law_edit_between := by rfl
theorem G_law_edited : G 21 = some i_law_edited := by rfl
theorem G_law_pieces : G 22 = some i_law_pieces := by rfl
theorem G_law_edit : G 23 = some i_law_edit := by rfl
theorem G_law_joined : G 24 = some i_law_joined := by rfl
theorem G_law_alike : G 25 = some i_law_alike := by rfl
theorem G_law_is_edit_told : G 26 = some i_law_is_edit_told := by rfl
theorem G_law_are_rows_told : G 27 = some i_law_are_rows_told := by rfl
theorem G_law : G 28 = some i_law := by rfl
end RS

set_option Elab.async false
set_option linter.all false
set_option maxRecDepth 100000
set_option maxHeartbeats 4000000
namespace RS
open PySem PySem.Spec PyProof.Rows L2
def topS (i : Nat) : Stmt := PySem.Challenge.pw_roundshapes_k75_cuts_mended.main.body.getD i (.Pass ⟨0, 0, 0, 0⟩)
def fx : List (Str × Nat) := [("cut_of", 0), ("edit_between", 1), ("edited", 2), ("edit_back", 3), ("ends_of_words", 4), ("words_kept", 5), ("pieces_of", 6), ("put_behind", 7), ("fallen", 8), ("mended_cut", 9), ("joins_of_mending", 10), ("alike_words", 11), ("mended_along", 12), ("_law_draws", 13), ("_law_take", 14), ("_law_same", 15), ("_law_mixed", 16), ("_law_is_least", 17), ("_law_cut", 18), ("_law_word", 19), ("_law_edit_between", 20), ("_law_edited", 21), ("_law_pieces", 22), ("_law_edit", 23), ("_law_joined", 24), ("_law_alike", 25), ("_law_is_edit_told", 26), ("_law_are_rows_told", 27), ("law", 28)]
abbrev s_cut_of : Stmt := topS 1
abbrev d_cut_of : Df := ⟨"cut_of", s_cut_of, ["word"], ["word", "found", "start", "end", "back"], ["found"], i_cut_of⟩
theorem ok_cut_of : DfOk fx d_cut_of := ⟨⟨rfl, rfl, rfl, by decide +kernel, rfl, by decide +kernel, by decide +kernel⟩, by kernel_rfl, rfl, rfl⟩
abbrev s_edit_between : Stmt := topS 3
abbrev d_edit_between : Df := ⟨"edit_between", s_edit_between, ["one", "other"], ["one", "other", "least", "at", "end"], [], i_edit_between⟩
theorem ok_edit_between : DfOk fx d_edit_between := ⟨⟨rfl, rfl, rfl, by decide +kernel, rfl, by decide +kernel, by decide +kernel⟩, by kernel_rfl, rfl, rfl⟩
abbrev s_edited : Stmt := topS 4
abbrev d_edited : Df := ⟨"edited", s_edited, ["word", "edit"], ["word", "edit", "at", "many", "letters"], [], i_edited⟩
theorem ok_edited : DfOk fx d_edited := ⟨⟨rfl, rfl, rfl, by decide +kernel, rfl, by decide +kernel, by decide +kernel⟩, by kernel_rfl, rfl, rfl⟩
abbrev s_edit_back : Stmt := topS 5
abbrev d_edit_back : Df := ⟨"edit_back", s_edit_back, ["word", "edit"], ["word", "edit", "at", "many", "letters"], [], i_edit_back⟩
theorem ok_edit_back : DfOk fx d_edit_back := ⟨⟨rfl, rfl, rfl, by decide +kernel, rfl, by decide +kernel, by decide +kernel⟩, by kernel_rfl, rfl, rfl⟩
abbrev s_ends_of_words : Stmt := topS 6
abbrev d_ends_of_words : Df := ⟨"ends_of_words", s_ends_of_words, ["words"], ["words", "word", "found", "at"], [], i_ends_of_words⟩
theorem ok_ends_of_words : DfOk fx d_ends_of_words := ⟨⟨rfl, rfl, rfl, by decide +kernel, rfl, by decide +kernel, by decide +kernel⟩, by kernel_rfl, rfl, rfl⟩
abbrev s_words_kept : Stmt := topS 7
abbrev d_words_kept : Df := ⟨"words_kept", s_words_kept, ["cut", "edit"], ["cut", "edit", "ends", "ahead", "begins", "k", "end", "place"], [], i_words_kept⟩
theorem ok_words_kept : DfOk fx d_words_kept := ⟨⟨rfl, rfl, rfl, by decide +kernel, rfl, by decide +kernel, by decide +kernel⟩, by kernel_rfl, rfl, rfl⟩
abbrev s_pieces_of : Stmt := topS 8
abbrev d_pieces_of : Df := ⟨"pieces_of", s_pieces_of, ["cut", "edit"], ["cut", "edit", "last", "middle", "word", "at", "letters", "ahead", "behind", "letter"], [], i_pieces_of⟩
theorem ok_pieces_of : DfOk fx d_pieces_of := ⟨⟨rfl, rfl, rfl, by decide +kernel, rfl, by decide +kernel, by decide +kernel⟩, by kernel_rfl, rfl, rfl⟩
abbrev s_put_behind : Stmt := topS 9
abbrev d_put_behind : Df := ⟨"put_behind", s_put_behind, ["words", "word"], ["words", "word"], [], i_put_behind⟩
theorem ok_put_behind : DfOk fx d_put_behind := ⟨⟨rfl, rfl, rfl, by decide +kernel, rfl, by decide +kernel, by decide +kernel⟩, by kernel_rfl, rfl, rfl⟩
abbrev s_fallen : Stmt := topS 10
abbrev d_fallen : Df := ⟨"fallen", s_fallen, ["words"], ["words", "found", "word"], [], i_fallen⟩
theorem ok_fallen : DfOk fx d_fallen := ⟨⟨rfl, rfl, rfl, by decide +kernel, rfl, by decide +kernel, by decide +kernel⟩, by kernel_rfl, rfl, rfl⟩
abbrev s_mended_cut : Stmt := topS 11
abbrev d_mended_cut : Df := ⟨"mended_cut", s_mended_cut, ["cut", "edit"], ["cut", "edit"], [], i_mended_cut⟩
theorem ok_mended_cut : DfOk fx d_mended_cut := ⟨⟨rfl, rfl, rfl, by decide +kernel, rfl, by decide +kernel, by decide +kernel⟩, by kernel_rfl, rfl, rfl⟩
abbrev s_joins_of_mending : Stmt := topS 12
abbrev d_joins_of_mending : Df := ⟨"joins_of_mending", s_joins_of_mending, ["cut", "edit"], ["cut", "edit"], [], i_joins_of_mending⟩
theorem ok_joins_of_mending : DfOk fx d_joins_of_mending := ⟨⟨rfl, rfl, rfl, by decide +kernel, rfl, by decide +kernel, by decide +kernel⟩, by kernel_rfl, rfl, rfl⟩
abbrev s_alike_words : Stmt := topS 13
abbrev d_alike_words : Df := ⟨"alike_words", s_alike_words, ["one", "other"], ["one", "other", "least", "first", "last"], [], i_alike_words⟩
theorem ok_alike_words : DfOk fx d_alike_words := ⟨⟨rfl, rfl, rfl, by decide +kernel, rfl, by decide +kernel, by decide +kernel⟩, by kernel_rfl, rfl, rfl⟩
abbrev s_mended_along : Stmt := topS 14
abbrev d_mended_along : Df := ⟨"mended_along", s_mended_along, ["word", "edits"], ["word", "edits", "found", "edit"], [], i_mended_along⟩
theorem ok_mended_along : DfOk fx d_mended_along := ⟨⟨rfl, rfl, rfl, by decide +kernel, rfl, by decide +kernel, by decide +kernel⟩, by kernel_rfl, rfl, rfl⟩
abbrev s_law_draws : Stmt := topS 16
abbrev d_law_draws : Df := ⟨"_law_draws", s_law_draws, ["script", "many"], ["script", "many", "cells", "rest", "draws", "k", "at", "cell", "once"], ["cells", "draws", "rest"], i_law_draws⟩
theorem ok_law_draws : DfOk fx d_law_draws := ⟨⟨rfl, rfl, rfl, by decide +kernel, rfl, by decide +kernel, by decide +kernel⟩, by kernel_rfl, rfl, rfl⟩
abbrev s_law_take : Stmt := topS 17
abbrev d_law_take : Df := ⟨"_law_take", s_law_take, ["draws", "many"], ["draws", "many"], ["draws"], i_law_take⟩
theorem ok_law_take : DfOk fx d_law_take := ⟨⟨rfl, rfl, rfl, by decide +kernel, rfl, by decide +kernel, by decide +kernel⟩, by kernel_rfl, rfl, rfl⟩
abbrev s_law_same : Stmt := topS 18
abbrev d_law_same : Df := ⟨"_law_same", s_law_same, ["actual", "due"], ["actual", "due", "k"], [], i_law_same⟩
theorem ok_law_same : DfOk fx d_law_same := ⟨⟨rfl, rfl, rfl, by decide +kernel, rfl, by decide +kernel, by decide +kernel⟩, by kernel_rfl, rfl, rfl⟩
abbrev s_law_mixed : Stmt := topS 19
abbrev d_law_mixed : Df := ⟨"_law_mixed", s_law_mixed, ["draws", "row"], ["draws", "row", "left", "found", "k"], ["draws", "found", "left"], i_law_mixed⟩
theorem ok_law_mixed : DfOk fx d_law_mixed := ⟨⟨rfl, rfl, rfl, by decide +kernel, rfl, by decide +kernel, by decide +kernel⟩, by kernel_rfl, rfl, rfl⟩
abbrev s_law_is_least : Stmt := topS 20
abbrev d_law_is_least : Df := ⟨"_law_is_least", s_law_is_least, ["word"], ["word", "k"], [], i_law_is_least⟩
theorem ok_law_is_least : DfOk fx d_law_is_least := ⟨⟨rfl, rfl, rfl, by decide +kernel, rfl, by decide +kernel, by decide +kernel⟩, by kernel_rfl, rfl, rfl⟩
abbrev s_law_cut : Stmt := topS 21
abbrev d_law_cut : Df := ⟨"_law_cut", s_law_cut, ["word"], ["word", "found", "step", "many", "k"], ["found"], i_law_cut⟩
theorem ok_law_cut : DfOk fx d_law_cut := ⟨⟨rfl, rfl, rfl, by decide +kernel, rfl, by decide +kernel, by decide +kernel⟩, by kernel_rfl, rfl, rfl⟩
abbrev s_law_word : Stmt := topS 22
abbrev d_law_word : Df := ⟨"_law_word", s_law_word, ["draws", "many"], ["draws", "many", "style", "found", "letter", "k", "part"], ["draws"], i_law_word⟩
theorem ok_law_word : DfOk fx d_law_word := ⟨⟨rfl, rfl, rfl, by decide +kernel, rfl, by decide +kernel, by decide +kernel⟩, by kernel_rfl, rfl, rfl⟩
abbrev s_law_edit_between : Stmt := topS 23
abbrev d_law_edit_between : Df := ⟨"_law_edit_between", s_law_edit_between, ["one", "other"], ["one", "other", "at", "end", "left", "right", "k"], [], i_law_edit_between⟩
theorem ok_law_edit_between : DfOk fx d_law_edit_between := ⟨⟨rfl, rfl, rfl, by decide +kernel, rfl, by decide +kernel, by decide +kernel⟩, by kernel_rfl, rfl, rfl⟩
abbrev s_law_edited : Stmt := topS 24
abbrev d_law_edited : Df := ⟨"_law_edited", s_law_edited, ["word", "edit"], ["word", "edit"], [], i_law_edited⟩
theorem ok_law_edited : DfOk fx d_law_edited := ⟨⟨rfl, rfl, rfl, by decide +kernel, rfl, by decide +kernel, by decide +kernel⟩, by kernel_rfl, rfl, rfl⟩
abbrev s_law_pieces : Stmt := topS 25
abbrev d_law_pieces : Df := ⟨"_law_pieces", s_law_pieces, ["cut", "edit"], ["cut", "edit", "word", "ahead", "behind", "part", "later", "letters", "at", "places", "first", "last", "k", "letter"], ["places"], i_law_pieces⟩
theorem ok_law_pieces : DfOk fx d_law_pieces := ⟨⟨rfl, rfl, rfl, by decide +kernel, rfl, by decide +kernel, by decide +kernel⟩, by kernel_rfl, rfl, rfl⟩
abbrev s_law_edit : Stmt := topS 26
abbrev d_law_edit : Df := ⟨"_law_edit", s_law_edit, ["draws", "many"], ["draws", "many", "pick", "at", "most", "out", "k"], ["draws"], i_law_edit⟩
theorem ok_law_edit : DfOk fx d_law_edit := ⟨⟨rfl, rfl, rfl, by decide +kernel, rfl, by decide +kernel, by decide +kernel⟩, by kernel_rfl, rfl, rfl⟩
abbrev s_law_joined : Stmt := topS 27
abbrev d_law_joined : Df := ⟨"_law_joined", s_law_joined, ["words"], ["words", "found", "word"], [], i_law_joined⟩
theorem ok_law_joined : DfOk fx d_law_joined := ⟨⟨rfl, rfl, rfl, by decide +kernel, rfl, by decide +kernel, by decide +kernel⟩, by kernel_rfl, rfl, rfl⟩
abbrev s_law_alike : Stmt := topS 28
abbrev d_law_alike : Df := ⟨"_law_alike", s_law_alike, ["one", "other"], ["one", "other", "edit"], [], i_law_alike⟩
theorem ok_law_alike : DfOk fx d_law_alike := ⟨⟨rfl, rfl, rfl, by decide +kernel, rfl, by decide +kernel, by decide +kernel⟩, by kernel_rfl, rfl, rfl⟩
abbrev s_law_is_edit_told : Stmt := topS 29
abbrev d_law_is_edit_told : Df := ⟨"_law_is_edit_told", s_law_is_edit_told, ["draws", "word", "edit"], ["draws", "word", "edit", "back", "due", "between", "later", "cut", "ahead", "behind", "pieces", "end", "k", "part"], [], i_law_is_edit_told⟩
theorem ok_law_is_edit_told : DfOk fx d_law_is_edit_told := ⟨⟨rfl, rfl, rfl, by decide +kernel, rfl, by decide +kernel, by decide +kernel⟩, by kernel_rfl, rfl, rfl⟩
abbrev s_law_are_rows_told : Stmt := topS 30
abbrev d_law_are_rows_told : Df := ⟨"_law_are_rows_told", s_law_are_rows_told, ["draws", "word"], ["draws", "word", "parts", "row", "ends", "cut", "part", "k"], ["draws"], i_law_are_rows_told⟩
theorem ok_law_are_rows_told : DfOk fx d_law_are_rows_told := ⟨⟨rfl, rfl, rfl, by decide +kernel, rfl, by decide +kernel, by decide +kernel⟩, by kernel_rfl, rfl, rfl⟩
abbrev s_law : Stmt := topS 31
abbrev d_law : Df := ⟨"law", s_law, ["script"], ["script", "draws", "turn", "word", "cut", "k", "other", "edits", "cuts", "here", "edit", "one", "two"], ["draws"], i_law⟩
theorem ok_law : DfOk fx d_law := ⟨⟨rfl, rfl, rfl, by decide +kernel, rfl, by decide +kernel, by decide +kernel⟩, by kernel_rfl, rfl, rfl⟩
end RS

set_option Elab.async false
set_option linter.all false
set_option maxRecDepth 100000
set_option maxHeartbeats 8000000
namespace RS
open PySem PySem.Spec PyProof.Rows L2
def dl : List (Nat × Df) := [(0, d_cut_of), (1, d_edit_between), (2, d_edited), (3, d_edit_back), (4, d_ends_of_words), (5, d_words_kept), (6, d_pieces_of), (7, d_put_behind), (8, d_fallen), (9, d_mended_cut), (10, d_joins_of_mending), (11, d_alike_words), (12, d_mended_along), (13, d_law_draws), (14, d_law_take), (15, d_law_same), (16, d_law_mixed), (17, d_law_is_least), (18, d_law_cut), (19, d_law_word), (20, d_law_edit_between), (21, d_law_edited), (22, d_law_pieces), (23, d_law_edit), (24, d_law_joined), (25, d_law_alike), (26, d_law_is_edit_told), (27, d_law_are_rows_told), (28, d_law)]
theorem lookup_mem {α β : Type} [BEq α] [LawfulBEq α] : ∀ {l : List (α × β)} {a : α} {b : β}, l.lookup a = some b → (a, b) ∈ l
  | [], _, _, h => by cases h
  | (x, y) :: r, a, b, h => by
    rw [List.lookup_cons] at h
    split at h
    · rename_i e
      cases h
      rw [eq_of_beq e]
      exact List.mem_cons_self
    · exact List.mem_cons_of_mem _ (lookup_mem h)
theorem all_ok : ∀ (i : Nat) (d : Df), dl.lookup i = some d → DfOk fx d ∧ G i = some d.fn := by
  intro i d h
  have := lookup_mem h
  simp only [dl, List.mem_cons, List.not_mem_nil, or_false, Prod.mk.injEq] at this
  rcases this with ⟨rfl, rfl⟩ | ⟨rfl, rfl⟩ | ⟨rfl, rfl⟩ | ⟨rfl, rfl⟩ | ⟨rfl, rfl⟩ | ⟨rfl, rfl⟩ | ⟨rfl, rfl⟩ | ⟨rfl, rfl⟩ | ⟨rfl, rfl⟩ | ⟨rfl, rfl⟩ | ⟨rfl, rfl⟩ | ⟨rfl, rfl⟩ | ⟨rfl, rfl⟩ | ⟨rfl, rfl⟩ | ⟨rfl, rfl⟩ | ⟨rfl, rfl⟩ | ⟨rfl, rfl⟩ | ⟨rfl, rfl⟩ | ⟨rfl, rfl⟩ | ⟨rfl, rfl⟩ | ⟨rfl, rfl⟩ | ⟨rfl, rfl⟩ | ⟨rfl, rfl⟩ | ⟨rfl, rfl⟩ | ⟨rfl, rfl⟩ | ⟨rfl, rfl⟩ | ⟨rfl, rfl⟩ | ⟨rfl, rfl⟩ | ⟨rfl, rfl⟩
  · exact ⟨ok_cut_of, G_cut_of⟩
  · exact ⟨ok_edit_between, G_edit_between⟩
  · exact ⟨ok_edited, G_edited⟩
  · exact ⟨ok_edit_back, G_edit_back⟩
  · exact ⟨ok_ends_of_words, G_ends_of_words⟩
  · exact ⟨ok_words_kept, G_words_kept⟩
  · exact ⟨ok_pieces_of, G_pieces_of⟩
  · exact ⟨ok_put_behind, G_put_behind⟩
  · exact ⟨ok_fallen, G_fallen⟩
  · exact ⟨ok_mended_cut, G_mended_cut⟩
  · exact ⟨ok_joins_of_mending, G_joins_of_mending⟩
  · exact ⟨ok_alike_words, G_alike_words⟩
  · exact ⟨ok_mended_along, G_mended_along⟩
  · exact ⟨ok_law_draws, G_law_draws⟩
  · exact ⟨ok_law_take, G_law_take⟩
  · exact ⟨ok_law_same, G_law_same⟩
  · exact ⟨ok_law_mixed, G_law_mixed⟩
  · exact ⟨ok_law_is_least, G_law_is_least⟩
  · exact ⟨ok_law_cut, G_law_cut⟩
  · exact ⟨ok_law_word, G_law_word⟩
  · exact ⟨ok_law_edit_between, G_law_edit_between⟩
  · exact ⟨ok_law_edited, G_law_edited⟩
  · exact ⟨ok_law_pieces, G_law_pieces⟩
  · exact ⟨ok_law_edit, G_law_edit⟩
  · exact ⟨ok_law_joined, G_law_joined⟩
  · exact ⟨ok_law_alike, G_law_alike⟩
  · exact ⟨ok_law_is_edit_told, G_law_is_edit_told⟩
  · exact ⟨ok_law_are_rows_told, G_law_are_rows_told⟩
  · exact ⟨ok_law, G_law⟩
theorem all_fx : ∀ (x : Str) (f : Nat), fx.lookup x = some f → ∃ d, dl.lookup f = some d ∧ d.nm = x := by
  intro x f h
  have := lookup_mem h
  simp only [fx, List.mem_cons, List.not_mem_nil, or_false, Prod.mk.injEq] at this
  rcases this with ⟨rfl, rfl⟩ | ⟨rfl, rfl⟩ | ⟨rfl, rfl⟩ | ⟨rfl, rfl⟩ | ⟨rfl, rfl⟩ | ⟨rfl, rfl⟩ | ⟨rfl, rfl⟩ | ⟨rfl, rfl⟩ | ⟨rfl, rfl⟩ | ⟨rfl, rfl⟩ | ⟨rfl, rfl⟩ | ⟨rfl, rfl⟩ | ⟨rfl, rfl⟩ | ⟨rfl, rfl⟩ | ⟨rfl, rfl⟩ | ⟨rfl, rfl⟩ | ⟨rfl, rfl⟩ | ⟨rfl, rfl⟩ | ⟨rfl, rfl⟩ | ⟨rfl, rfl⟩ | ⟨rfl, rfl⟩ | ⟨rfl, rfl⟩ | ⟨rfl, rfl⟩ | ⟨rfl, rfl⟩ | ⟨rfl, rfl⟩ | ⟨rfl, rfl⟩ | ⟨rfl, rfl⟩ | ⟨rfl, rfl⟩ | ⟨rfl, rfl⟩
  · exact ⟨d_cut_of, by rfl, rfl⟩
  · exact ⟨d_edit_between, by rfl, rfl⟩
  · exact ⟨d_edited, by rfl, rfl⟩
  · exact ⟨d_edit_back, by rfl, rfl⟩
  · exact ⟨d_ends_of_words, by rfl, rfl⟩
  · exact ⟨d_words_kept, by rfl, rfl⟩
  · exact ⟨d_pieces_of, by rfl, rfl⟩
  · exact ⟨d_put_behind, by rfl, rfl⟩
  · exact ⟨d_fallen, by rfl, rfl⟩
  · exact ⟨d_mended_cut, by rfl, rfl⟩
  · exact ⟨d_joins_of_mending, by rfl, rfl⟩
  · exact ⟨d_alike_words, by rfl, rfl⟩
  · exact ⟨d_mended_along, by rfl, rfl⟩
  · exact ⟨d_law_draws, by rfl, rfl⟩
  · exact ⟨d_law_take, by rfl, rfl⟩
  · exact ⟨d_law_same, by rfl, rfl⟩
  · exact ⟨d_law_mixed, by rfl, rfl⟩
  · exact ⟨d_law_is_least, by rfl, rfl⟩
  · exact ⟨d_law_cut, by rfl, rfl⟩
  · exact ⟨d_law_word, by rfl, rfl⟩
  · exact ⟨d_law_edit_between, by rfl, rfl⟩
  · exact ⟨d_law_edited, by rfl, rfl⟩
  · exact ⟨d_law_pieces, by rfl, rfl⟩
  · exact ⟨d_law_edit, by rfl, rfl⟩
  · exact ⟨d_law_joined, by rfl, rfl⟩
  · exact ⟨d_law_alike, by rfl, rfl⟩
  · exact ⟨d_law_is_edit_told, by rfl, rfl⟩
  · exact ⟨d_law_are_rows_told, by rfl, rfl⟩
  · exact ⟨d_law, by rfl, rfl⟩
/-- where a def stands -/
structure At (K : PySem.W.Frag) (mg : Str → Option Value) (d : Df) (f : Addr) (fd : FuncData) : Prop where
  fn : Fun K d.nm d.nm d.st f fd
  bi : Binds K fd d.ps []
  mg : mg d.nm = some (.ref f)
/-- the list of where they stand -/
inductive Ats (K : PySem.W.Frag) (mg : Str → Option Value) : List (Nat × Df) → List (Nat × Addr × FuncData) → Prop where
  | nil : Ats K mg [] []
  | cons {i : Nat} {d : Df} {f : Addr} {fd : FuncData} {l : List (Nat × Df)} {r : List (Nat × Addr × FuncData)} (h : At K mg d f fd) (t : Ats K mg l r) : Ats K mg ((i, d) :: l) ((i, f, fd) :: r)
theorem Ats.get {K : PySem.W.Frag} {mg : Str → Option Value} : ∀ {l : List (Nat × Df)} {r : List (Nat × Addr × FuncData)}, Ats K mg l r → ∀ (i : Nat) (d : Df), l.lookup i = some d → ∃ f fd, r.lookup i = some (f, fd) ∧ At K mg d f fd
  | _, _, .nil, _, _, h => by cases h
  | _, _, .cons (i := j) (d := d') (f := f) (fd := fd) h t, i, d, e => by
    rw [List.lookup_cons] at e ⊢
    cases q : i == j with
    | true => rw [q] at e; cases e; exact ⟨f, fd, rfl, h⟩
    | false => rw [q] at e; exact Ats.get t i d e
theorem ats_ok {P : Program} {w : World} {K : PySem.W.Frag} {mg : Str → Option Value} {base : Heap} {r : List (Nat × Addr × FuncData)} (A : Ats K mg dl r) (blt : ∀ x ∈ bltNames, fx.lookup x = none → mg x = none) {k i : Nat} {d : Df} {f : Addr} {fd : FuncData} (hd : dl.lookup i = some d) (hr : r.lookup i = some (f, fd)) :
    FnOk P w K mg base CX0 k f fd d.ps (spF K (callF G k i) d.ps.length) := by
  have := engine_ok (P := P) (w := w) (K := K) (mg := mg) (base := base) (G := G) (ds := fun i => dl.lookup i) (fx := fx) (fa := fun i => ((r.lookup i).map (·.1)).getD 0) (fd := fun i => ((r.lookup i).map (·.2)).getD fd) all_ok all_fx (fun i d h => by
    obtain ⟨f', fd', h1, h2⟩ := A.get i d h
    simp only [h1, Option.map_some, Option.getD_some]
    exact ⟨h2.fn, h2.bi, h2.mg⟩) blt k i d hd
  simpa only [hr, Option.map_some, Option.getD_some] using this
theorem all_mk {l : PySem.W.OpenLaw} {w : World} {K : PySem.W.Frag} {h : Heap} {mg : Str → Option Value} {fa : Addr} (X : K.In h) (G0 : h.Ns mainGlobals mg) (hfa : mg "law" = some (.ref fa)) (law_true : ∀ ns : List Int, ns.length ≤ 63 → ∃ S', callF G 60 28 [.pv (.scr ns)] [] = .ok (.pv (.bl true), S'))
    {f0 : Addr} {od0 an0 : Option Addr} {sl0 : Array (Option Value)} {oc0 kV0 dc0 pm0 cd0 ct0 : Value}
    {f1 : Addr} {od1 an1 : Option Addr} {sl1 : Array (Option Value)} {oc1 kV1 dc1 pm1 cd1 ct1 : Value}
    {f2 : Addr} {od2 an2 : Option Addr} {sl2 : Array (Option Value)} {oc2 kV2 dc2 pm2 cd2 ct2 : Value}
    {f3 : Addr} {od3 an3 : Option Addr} {sl3 : Array (Option Value)} {oc3 kV3 dc3 pm3 cd3 ct3 : Value}
    {f4 : Addr} {od4 an4 : Option Addr} {sl4 : Array (Option Value)} {oc4 kV4 dc4 pm4 cd4 ct4 : Value}
    {f5 : Addr} {od5 an5 : Option Addr} {sl5 : Array (Option Value)} {oc5 kV5 dc5 pm5 cd5 ct5 : Value}
    {f6 : Addr} {od6 an6 : Option Addr} {sl6 : Array (Option Value)} {oc6 kV6 dc6 pm6 cd6 ct6 : Value}
    {f7 : Addr} {od7 an7 : Option Addr} {sl7 : Array (Option Value)} {oc7 kV7 dc7 pm7 cd7 ct7 : Value}
    {f8 : Addr} {od8 an8 : Option Addr} {sl8 : Array (Option Value)} {oc8 kV8 dc8 pm8 cd8 ct8 : Value}
    {f9 : Addr} {od9 an9 : Option Addr} {sl9 : Array (Option Value)} {oc9 kV9 dc9 pm9 cd9 ct9 : Value}
    {f10 : Addr} {od10 an10 : Option Addr} {sl10 : Array (Option Value)} {oc10 kV10 dc10 pm10 cd10 ct10 : Value}
    {f11 : Addr} {od11 an11 : Option Addr} {sl11 : Array (Option Value)} {oc11 kV11 dc11 pm11 cd11 ct11 : Value}
    {f12 : Addr} {od12 an12 : Option Addr} {sl12 : Array (Option Value)} {oc12 kV12 dc12 pm12 cd12 ct12 : Value}
    {f13 : Addr} {od13 an13 : Option Addr} {sl13 : Array (Option Value)} {oc13 kV13 dc13 pm13 cd13 ct13 : Value}
    {f14 : Addr} {od14 an14 : Option Addr} {sl14 : Array (Option Value)} {oc14 kV14 dc14 pm14 cd14 ct14 : Value}
    {f15 : Addr} {od15 an15 : Option Addr} {sl15 : Array (Option Value)} {oc15 kV15 dc15 pm15 cd15 ct15 : Value}
    {f16 : Addr} {od16 an16 : Option Addr} {sl16 : Array (Option Value)} {oc16 kV16 dc16 pm16 cd16 ct16 : Value}
    {f17 : Addr} {od17 an17 : Option Addr} {sl17 : Array (Option Value)} {oc17 kV17 dc17 pm17 cd17 ct17 : Value}
    {f18 : Addr} {od18 an18 : Option Addr} {sl18 : Array (Option Value)} {oc18 kV18 dc18 pm18 cd18 ct18 : Value}
    {f19 : Addr} {od19 an19 : Option Addr} {sl19 : Array (Option Value)} {oc19 kV19 dc19 pm19 cd19 ct19 : Value}
    {f20 : Addr} {od20 an20 : Option Addr} {sl20 : Array (Option Value)} {oc20 kV20 dc20 pm20 cd20 ct20 : Value}
    {f21 : Addr} {od21 an21 : Option Addr} {sl21 : Array (Option Value)} {oc21 kV21 dc21 pm21 cd21 ct21 : Value}
    {f22 : Addr} {od22 an22 : Option Addr} {sl22 : Array (Option Value)} {oc22 kV22 dc22 pm22 cd22 ct22 : Value}
    {f23 : Addr} {od23 an23 : Option Addr} {sl23 : Array (Option Value)} {oc23 kV23 dc23 pm23 cd23 ct23 : Value}
    {f24 : Addr} {od24 an24 : Option Addr} {sl24 : Array (Option Value)} {oc24 kV24 dc24 pm24 cd24 ct24 : Value}
    {f25 : Addr} {od25 an25 : Option Addr} {sl25 : Array (Option Value)} {oc25 kV25 dc25 pm25 cd25 ct25 : Value}
    {f26 : Addr} {od26 an26 : Option Addr} {sl26 : Array (Option Value)} {oc26 kV26 dc26 pm26 cd26 ct26 : Value}
    {f27 : Addr} {od27 an27 : Option Addr} {sl27 : Array (Option Value)} {oc27 kV27 dc27 pm27 cd27 ct27 : Value}
    {f28 : Addr} {od28 an28 : Option Addr} {sl28 : Array (Option Value)} {oc28 kV28 dc28 pm28 cd28 ct28 : Value}
    (a0 : PySem.W.nsIn K mainGlobals "cut_of" = some (some (.ref f0))) (l0 : K.lookup f0 = some ⟨oc0, od0, .func (PySem.W.fnOf "cut_of" "cut_of" (defArgs s_cut_of) (defBody s_cut_of) (defScope s_cut_of) .none kV0 dc0 pm0 an0 cd0 ct0), sl0⟩) (c0 : PySem.W.codeIn K cd0 "cut_of" = true) (k0 : PySem.W.keepIn K (.ref f0) = true)
    (a1 : PySem.W.nsIn K mainGlobals "edit_between" = some (some (.ref f1))) (l1 : K.lookup f1 = some ⟨oc1, od1, .func (PySem.W.fnOf "edit_between" "edit_between" (defArgs s_edit_between) (defBody s_edit_between) (defScope s_edit_between) .none kV1 dc1 pm1 an1 cd1 ct1), sl1⟩) (c1 : PySem.W.codeIn K cd1 "edit_between" = true) (k1 : PySem.W.keepIn K (.ref f1) = true)
    (a2 : PySem.W.nsIn K mainGlobals "edited" = some (some (.ref f2))) (l2 : K.lookup f2 = some ⟨oc2, od2, .func (PySem.W.fnOf "edited" "edited" (defArgs s_edited) (defBody s_edited) (defScope s_edited) .none kV2 dc2 pm2 an2 cd2 ct2), sl2⟩) (c2 : PySem.W.codeIn K cd2 "edited" = true) (k2 : PySem.W.keepIn K (.ref f2) = true)
    (a3 : PySem.W.nsIn K mainGlobals "edit_back" = some (some (.ref f3))) (l3 : K.lookup f3 = some ⟨oc3, od3, .func (PySem.W.fnOf "edit_back" "edit_back" (defArgs s_edit_back) (defBody s_edit_back) (defScope s_edit_back) .none kV3 dc3 pm3 an3 cd3 ct3), sl3⟩) (c3 : PySem.W.codeIn K cd3 "edit_back" = true) (k3 : PySem.W.keepIn K (.ref f3) = true)
    (a4 : PySem.W.nsIn K mainGlobals "ends_of_words" = some (some (.ref f4))) (l4 : K.lookup f4 = some ⟨oc4, od4, .func (PySem.W.fnOf "ends_of_words" "ends_of_words" (defArgs s_ends_of_words) (defBody s_ends_of_words) (defScope s_ends_of_words) .none kV4 dc4 pm4 an4 cd4 ct4), sl4⟩) (c4 : PySem.W.codeIn K cd4 "ends_of_words" = true) (k4 : PySem.W.keepIn K (.ref f4) = true)
    (a5 : PySem.W.nsIn K mainGlobals "words_kept" = some (some (.ref f5))) (l5 : K.lookup f5 = some ⟨oc5, od5, .func (PySem.W.fnOf "words_kept" "words_kept" (defArgs s_words_kept) (defBody s_words_kept) (defScope s_words_kept) .none kV5 dc5 pm5 an5 cd5 ct5), sl5⟩) (c5 : PySem.W.codeIn K cd5 "words_kept" = true) (k5 : PySem.W.keepIn K (.ref f5) = true)
    (a6 : PySem.W.nsIn K mainGlobals "pieces_of" = some (some (.ref f6))) (l6 : K.lookup f6 = some ⟨oc6, od6, .func (PySem.W.fnOf "pieces_of" "pieces_of" (defArgs s_pieces_of) (defBody s_pieces_of) (defScope s_pieces_of) .none kV6 dc6 pm6 an6 cd6 ct6), sl6⟩) (c6 : PySem.W.codeIn K cd6 "pieces_of" = true) (k6 : PySem.W.keepIn K (.ref f6) = true)
    (a7 : PySem.W.nsIn K mainGlobals "put_behind" = some (some (.ref f7))) (l7 : K.lookup f7 = some ⟨oc7, od7, .func (PySem.W.fnOf "put_behind" "put_behind" (defArgs s_put_behind) (defBody s_put_behind) (defScope s_put_behind) .none kV7 dc7 pm7 an7 cd7 ct7), sl7⟩) (c7 : PySem.W.codeIn K cd7 "put_behind" = true) (k7 : PySem.W.keepIn K (.ref f7) = true)
    (a8 : PySem.W.nsIn K mainGlobals "fallen" = some (some (.ref f8))) (l8 : K.lookup f8 = some ⟨oc8, od8, .func (PySem.W.fnOf "fallen" "fallen" (defArgs s_fallen) (defBody s_fallen) (defScope s_fallen) .none kV8 dc8 pm8 an8 cd8 ct8), sl8⟩) (c8 : PySem.W.codeIn K cd8 "fallen" = true) (k8 : PySem.W.keepIn K (.ref f8) = true)
    (a9 : PySem.W.nsIn K mainGlobals "mended_cut" = some (some (.ref f9))) (l9 : K.lookup f9 = some ⟨oc9, od9, .func (PySem.W.fnOf "mended_cut" "mended_cut" (defArgs s_mended_cut) (defBody s_mended_cut) (defScope s_mended_cut) .none kV9 dc9 pm9 an9 cd9 ct9), sl9⟩) (c9 : PySem.W.codeIn K cd9 "mended_cut" = true) (k9 : PySem.W.keepIn K (.ref f9) = true)
    (a10 : PySem.W.nsIn K mainGlobals "joins_of_mending" = some (some (.ref f10))) (l10 : K.lookup f10 = some ⟨oc10, od10, .func (PySem.W.fnOf "joins_of_mending" "joins_of_mending" (defArgs s_joins_of_mending) (defBody s_joins_of_mending) (defScope s_joins_of_mending) .none kV10 dc10 pm10 an10 cd10 ct10), sl10⟩) (c10 : PySem.W.codeIn K cd10 "joins_of_mending" = true) (k10 : PySem.W.keepIn K (.ref f10) = true)
    (a11 : PySem.W.nsIn K mainGlobals "alike_words" = some (some (.ref f11))) (l11 : K.lookup f11 = some ⟨oc11, od11, .func (PySem.W.fnOf "alike_words" "alike_words" (defArgs s_alike_words) (defBody s_alike_words) (defScope s_alike_words) .none kV11 dc11 pm11 an11 cd11 ct11), sl11⟩) (c11 : PySem.W.codeIn K cd11 "alike_words" = true) (k11 : PySem.W.keepIn K (.ref f11) = true)
    (a12 : PySem.W.nsIn K mainGlobals "mended_along" = some (some (.ref f12))) (l12 : K.lookup f12 = some ⟨oc12, od12, .func (PySem.W.fnOf "mended_along" "mended_along" (defArgs s_mended_along) (defBody s_mended_along) (defScope s_mended_along) .none kV12 dc12 pm12 an12 cd12 ct12), sl12⟩) (c12 : PySem.W.codeIn K cd12 "mended_along" = true) (k12 : PySem.W.keepIn K (.ref f12) = true)
    (a13 : PySem.W.nsIn K mainGlobals "_law_draws" = some (some (.ref f13))) (l13 : K.lookup f13 = some ⟨oc13, od13, .func (PySem.W.fnOf "_law_draws" "_law_draws" (defArgs s_law_draws) (defBody s_law_draws) (defScope s_law_draws) .none kV13 dc13 pm13 an13 cd13 ct13), sl13⟩) (c13 : PySem.W.codeIn K cd13 "_law_draws" = true) (k13 : PySem.W.keepIn K (.ref f13) = true)
    (a14 : PySem.W.nsIn K mainGlobals "_law_take" = some (some (.ref f14))) (l14 : K.lookup f14 = some ⟨oc14, od14, .func (PySem.W.fnOf "_law_take" "_law_take" (defArgs s_law_take) (defBody s_law_take) (defScope s_law_take) .none kV14 dc14 pm14 an14 cd14 ct14), sl14⟩) (c14 : PySem.W.codeIn K cd14 "_law_take" = true) (k14 : PySem.W.keepIn K (.ref f14) = true)
    (a15 : PySem.W.nsIn K mainGlobals "_law_same" = some (some (.ref f15))) (l15 : K.lookup f15 = some ⟨oc15, od15, .func (PySem.W.fnOf "_law_same" "_law_same" (defArgs s_law_same) (defBody s_law_same) (defScope s_law_same) .none kV15 dc15 pm15 an15 cd15 ct15), sl15⟩) (c15 : PySem.W.codeIn K cd15 "_law_same" = true) (k15 : PySem.W.keepIn K (.ref f15) = true)
    (a16 : PySem.W.nsIn K mainGlobals "_law_mixed" = some (some (.ref f16))) (l16 : K.lookup f16 = some ⟨oc16, od16, .func (PySem.W.fnOf "_law_mixed" "_law_mixed" (defArgs s_law_mixed) (defBody s_law_mixed) (defScope s_law_mixed) .none kV16 dc16 pm16 an16 cd16 ct16), sl16⟩) (c16 : PySem.W.codeIn K cd16 "_law_mixed" = true) (k16 : PySem.W.keepIn K (.ref f16) = true)
    (a17 : PySem.W.nsIn K mainGlobals "_law_is_least" = some (some (.ref f17))) (l17 : K.lookup f17 = some ⟨oc17, od17, .func (PySem.W.fnOf "_law_is_least" "_law_is_least" (defArgs s_law_is_least) (defBody s_law_is_least) (defScope s_law_is_least) .none kV17 dc17 pm17 an17 cd17 ct17), sl17⟩) (c17 : PySem.W.codeIn K cd17 "_law_is_least" = true) (k17 : PySem.W.keepIn K (.ref f17) = true)
    (a18 : PySem.W.nsIn K mainGlobals "_law_cut" = some (some (.ref f18))) (l18 : K.lookup f18 = some ⟨oc18, od18, .func (PySem.W.fnOf "_law_cut" "_law_cut" (defArgs s_law_cut) (defBody s_law_cut) (defScope s_law_cut) .none kV18 dc18 pm18 an18 cd18 ct18), sl18⟩) (c18 : PySem.W.codeIn K cd18 "_law_cut" = true) (k18 : PySem.W.keepIn K (.ref f18) = true)
    (a19 : PySem.W.nsIn K mainGlobals "_law_word" = some (some (.ref f19))) (l19 : K.lookup f19 = some ⟨oc19, od19, .func (PySem.W.fnOf "_law_word" "_law_word" (defArgs s_law_word) (defBody s_law_word) (defScope s_law_word) .none kV19 dc19 pm19 an19 cd19 ct19), sl19⟩) (c19 : PySem.W.codeIn K cd19 "_law_word" = true) (k19 : PySem.W.keepIn K (.ref f19) = true)
    (a20 : PySem.W.nsIn K mainGlobals "_law_edit_between" = some (some (.ref f20))) (l20 : K.lookup f20 = some ⟨oc20, od20, .func (PySem.W.fnOf "_law_edit_between" "_law_edit_between" (defArgs s_law_edit_between) (defBody s_law_edit_between) (defScope s_law_edit_between) .none kV20 dc20 pm20 an20 cd20 ct20), sl20⟩) (c20 : PySem.W.codeIn K cd20 "_law_edit_between" = true) (k20 : PySem.W.keepIn K (.ref f20) = true)
    (a21 : PySem.W.nsIn K mainGlobals "_law_edited" = some (some (.ref f21))) (l21 : K.lookup f21 = some ⟨oc21, od21, .func (PySem.W.fnOf "_law_edited" "_law_edited" (defArgs s_law_edited) (defBody s_law_edited) (defScope s_law_edited) .none kV21 dc21 pm21 an21 cd21 ct21), sl21⟩) (c21 : PySem.W.codeIn K cd21 "_law_edited" = true) (k21 : PySem.W.keepIn K (.ref f21) = true)
    (a22 : PySem.W.nsIn K mainGlobals "_law_pieces" = some (some (.ref f22))) (l22 : K.lookup f22 = some ⟨oc22, od22, .func (PySem.W.fnOf "_law_pieces" "_law_pieces" (defArgs s_law_pieces) (defBody s_law_pieces) (defScope s_law_pieces) .none kV22 dc22 pm22 an22 cd22 ct22), sl22⟩) (c22 : PySem.W.codeIn K cd22 "_law_pieces" = true) (k22 : PySem.W.keepIn K (.ref f22) = true)
    (a23 : PySem.W.nsIn K mainGlobals "_law_edit" = some (some (.ref f23))) (l23 : K.lookup f23 = some ⟨oc23, od23, .func (PySem.W.fnOf "_law_edit" "_law_edit" (defArgs s_law_edit) (defBody s_law_edit) (defScope s_law_edit) .none kV23 dc23 pm23 an23 cd23 ct23), sl23⟩) (c23 : PySem.W.codeIn K cd23 "_law_edit" = true) (k23 : PySem.W.keepIn K (.ref f23) = true)
    (a24 : PySem.W.nsIn K mainGlobals "_law_joined" = some (some (.ref f24))) (l24 : K.lookup f24 = some ⟨oc24, od24, .func (PySem.W.fnOf "_law_joined" "_law_joined" (defArgs s_law_joined) (defBody s_law_joined) (defScope s_law_joined) .none kV24 dc24 pm24 an24 cd24 ct24), sl24⟩) (c24 : PySem.W.codeIn K cd24 "_law_joined" = true) (k24 : PySem.W.keepIn K (.ref f24) = true)
    (a25 : PySem.W.nsIn K mainGlobals "_law_alike" = some (some (.ref f25))) (l25 : K.lookup f25 = some ⟨oc25, od25, .func (PySem.W.fnOf "_law_alike" "_law_alike" (defArgs s_law_alike) (defBody s_law_alike) (defScope s_law_alike) .none kV25 dc25 pm25 an25 cd25 ct25), sl25⟩) (c25 : PySem.W.codeIn K cd25 "_law_alike" = true) (k25 : PySem.W.keepIn K (.ref f25) = true)
    (a26 : PySem.W.nsIn K mainGlobals "_law_is_edit_told" = some (some (.ref f26))) (l26 : K.lookup f26 = some ⟨oc26, od26, .func (PySem.W.fnOf "_law_is_edit_told" "_law_is_edit_told" (defArgs s_law_is_edit_told) (defBody s_law_is_edit_told) (defScope s_law_is_edit_told) .none kV26 dc26 pm26 an26 cd26 ct26), sl26⟩) (c26 : PySem.W.codeIn K cd26 "_law_is_edit_told" = true) (k26 : PySem.W.keepIn K (.ref f26) = true)
    (a27 : PySem.W.nsIn K mainGlobals "_law_are_rows_told" = some (some (.ref f27))) (l27 : K.lookup f27 = some ⟨oc27, od27, .func (PySem.W.fnOf "_law_are_rows_told" "_law_are_rows_told" (defArgs s_law_are_rows_told) (defBody s_law_are_rows_told) (defScope s_law_are_rows_told) .none kV27 dc27 pm27 an27 cd27 ct27), sl27⟩) (c27 : PySem.W.codeIn K cd27 "_law_are_rows_told" = true) (k27 : PySem.W.keepIn K (.ref f27) = true)
    (a28 : PySem.W.nsIn K mainGlobals "law" = some (some (.ref f28))) (l28 : K.lookup f28 = some ⟨oc28, od28, .func (PySem.W.fnOf "law" "law" (defArgs s_law) (defBody s_law) (defScope s_law) .none kV28 dc28 pm28 an28 cd28 ct28), sl28⟩) (c28 : PySem.W.codeIn K cd28 "law" = true) (k28 : PySem.W.keepIn K (.ref f28) = true)
    (z0 : PySem.W.nsIn K mainGlobals "len" = some none) (z1 : PySem.W.nsIn K mainGlobals "tuple" = some none) (z2 : PySem.W.nsIn K mainGlobals "list" = some none) (z3 : PySem.W.nsIn K mainGlobals "int" = some none) (z4 : PySem.W.nsIn K mainGlobals "sum" = some none) (z5 : PySem.W.nsIn K mainGlobals "max" = some none) (z6 : PySem.W.nsIn K mainGlobals "min" = some none) (z7 : PySem.W.nsIn K mainGlobals "abs" = some none) (z8 : PySem.W.nsIn K mainGlobals "all" = some none) (z9 : PySem.W.nsIn K mainGlobals "any" = some none) (z10 : PySem.W.nsIn K mainGlobals "range" = some none) (z11 : PySem.W.nsIn K mainGlobals "isinstance" = some none) (z12 : PySem.W.nsIn K mainGlobals "bool" = some none) (z13 : PySem.W.nsIn K mainGlobals "str" = some none) :
    ∃ fd : FuncData, (∀ (s : Shared) (v : Value), BindsTo s fd ⟨[v], []⟩ [("script", v)]) ∧ ∀ base : Heap, K.In base → base.Ns mainGlobals mg → FnOk l.prog w K mg base CX0 60 fa fd ["script"] (spLaw K) := by
  have e := hfa.symm.trans (PySem.W.mg_of X G0 a28)
  cases e
  have A : Ats K mg dl _ := (Ats.cons ⟨fun_mk (st := s_cut_of) l0 c0 k0, (fun_mk (st := s_cut_of) l0 c0 k0).binds (ps := ["word"]) fun _ _ _ _ _ _ us hl => match us, hl with | [_], _ => rfl, PySem.W.mg_of X G0 a0⟩ (Ats.cons ⟨fun_mk (st := s_edit_between) l1 c1 k1, (fun_mk (st := s_edit_between) l1 c1 k1).binds (ps := ["one", "other"]) fun _ _ _ _ _ _ us hl => match us, hl with | [_, _], _ => rfl, PySem.W.mg_of X G0 a1⟩ (Ats.cons ⟨fun_mk (st := s_edited) l2 c2 k2, (fun_mk (st := s_edited) l2 c2 k2).binds (ps := ["word", "edit"]) fun _ _ _ _ _ _ us hl => match us, hl with | [_, _], _ => rfl, PySem.W.mg_of X G0 a2⟩ (Ats.cons ⟨fun_mk (st := s_edit_back) l3 c3 k3, (fun_mk (st := s_edit_back) l3 c3 k3).binds (ps := ["word", "edit"]) fun _ _ _ _ _ _ us hl => match us, hl with | [_, _], _ => rfl, PySem.W.mg_of X G0 a3⟩ (Ats.cons ⟨fun_mk (st := s_ends_of_words) l4 c4 k4, (fun_mk (st := s_ends_of_words) l4 c4 k4).binds (ps := ["words"]) fun _ _ _ _ _ _ us hl => match us, hl with | [_], _ => rfl, PySem.W.mg_of X G0 a4⟩ (Ats.cons ⟨fun_mk (st := s_words_kept) l5 c5 k5, (fun_mk (st := s_words_kept) l5 c5 k5).binds (ps := ["cut", "edit"]) fun _ _ _ _ _ _ us hl => match us, hl with | [_, _], _ => rfl, PySem.W.mg_of X G0 a5⟩ (Ats.cons ⟨fun_mk (st := s_pieces_of) l6 c6 k6, (fun_mk (st := s_pieces_of) l6 c6 k6).binds (ps := ["cut", "edit"]) fun _ _ _ _ _ _ us hl => match us, hl with | [_, _], _ => rfl, PySem.W.mg_of X G0 a6⟩ (Ats.cons ⟨fun_mk (st := s_put_behind) l7 c7 k7, (fun_mk (st := s_put_behind) l7 c7 k7).binds (ps := ["words", "word"]) fun _ _ _ _ _ _ us hl => match us, hl with | [_, _], _ => rfl, PySem.W.mg_of X G0 a7⟩ (Ats.cons ⟨fun_mk (st := s_fallen) l8 c8 k8, (fun_mk (st := s_fallen) l8 c8 k8).binds (ps := ["words"]) fun _ _ _ _ _ _ us hl => match us, hl with | [_], _ => rfl, PySem.W.mg_of X G0 a8⟩ (Ats.cons ⟨fun_mk (st := s_mended_cut) l9 c9 k9, (fun_mk (st := s_mended_cut) l9 c9 k9).binds (ps := ["cut", "edit"]) fun _ _ _ _ _ _ us hl => match us, hl with | [_, _], _ => rfl, PySem.W.mg_of X G0 a9⟩ (Ats.cons ⟨fun_mk (st := s_joins_of_mending) l10 c10 k10, (fun_mk (st := s_joins_of_mending) l10 c10 k10).binds (ps := ["cut", "edit"]) fun _ _ _ _ _ _ us hl => match us, hl with | [_, _], _ => rfl, PySem.W.mg_of X G0 a10⟩ (Ats.cons ⟨fun_mk (st := s_alike_words) l11 c11 k11, (fun_mk (st := s_alike_words) l11 c11 k11).binds (ps := ["one", "other"]) fun _ _ _ _ _ _ us hl => match us, hl with | [_, _], _ => rfl, PySem.W.mg_of X G0 a11⟩ (Ats.cons ⟨fun_mk (st := s_mended_along) l12 c12 k12, (fun_mk (st := s_mended_along) l12 c12 k12).binds (ps := ["word", "edits"]) fun _ _ _ _ _ _ us hl => match us, hl with | [_, _], _ => rfl, PySem.W.mg_of X G0 a12⟩ (Ats.cons ⟨fun_mk (st := s_law_draws) l13 c13 k13, (fun_mk (st := s_law_draws) l13 c13 k13).binds (ps := ["script", "many"]) fun _ _ _ _ _ _ us hl => match us, hl with | [_, _], _ => rfl, PySem.W.mg_of X G0 a13⟩ (Ats.cons ⟨fun_mk (st := s_law_take) l14 c14 k14, (fun_mk (st := s_law_take) l14 c14 k14).binds (ps := ["draws", "many"]) fun _ _ _ _ _ _ us hl => match us, hl with | [_, _], _ => rfl, PySem.W.mg_of X G0 a14⟩ (Ats.cons ⟨fun_mk (st := s_law_same) l15 c15 k15, (fun_mk (st := s_law_same) l15 c15 k15).binds (ps := ["actual", "due"]) fun _ _ _ _ _ _ us hl => match us, hl with | [_, _], _ => rfl, PySem.W.mg_of X G0 a15⟩ (Ats.cons ⟨fun_mk (st := s_law_mixed) l16 c16 k16, (fun_mk (st := s_law_mixed) l16 c16 k16).binds (ps := ["draws", "row"]) fun _ _ _ _ _ _ us hl => match us, hl with | [_, _], _ => rfl, PySem.W.mg_of X G0 a16⟩ (Ats.cons ⟨fun_mk (st := s_law_is_least) l17 c17 k17, (fun_mk (st := s_law_is_least) l17 c17 k17).binds (ps := ["word"]) fun _ _ _ _ _ _ us hl => match us, hl with | [_], _ => rfl, PySem.W.mg_of X G0 a17⟩ (Ats.cons ⟨fun_mk (st := s_law_cut) l18 c18 k18, (fun_mk (st := s_law_cut) l18 c18 k18).binds (ps := ["word"]) fun _ _ _ _ _ _ us hl => match us, hl with | [_], _ => rfl, PySem.W.mg_of X G0 a18⟩ (Ats.cons ⟨fun_mk (st := s_law_word) l19 c19 k19, (fun_mk (st := s_law_word) l19 c19 k19).binds (ps := ["draws", "many"]) fun _ _ _ _ _ _ us hl => match us, hl with | [_, _], _ => rfl, PySem.W.mg_of X G0 a19⟩ (Ats.cons ⟨fun_mk (st := s_law_edit_between) l20 c20 k20, (fun_mk (st := s_law_edit_between) l20 c20 k20).binds (ps := ["one", "other"]) fun _ _ _ _ _ _ us hl => match us, hl with | [_, _], _ => rfl, PySem.W.mg_of X G0 a20⟩ (Ats.cons ⟨fun_mk (st := s_law_edited) l21 c21 k21, (fun_mk (st := s_law_edited) l21 c21 k21).binds (ps := ["word", "edit"]) fun _ _ _ _ _ _ us hl => match us, hl with | [_, _], _ => rfl, PySem.W.mg_of X G0 a21⟩ (Ats.cons ⟨fun_mk (st := s_law_pieces) l22 c22 k22, (fun_mk (st := s_law_pieces) l22 c22 k22).binds (ps := ["cut", "edit"]) fun _ _ _ _ _ _ us hl => match us, hl with | [_, _], _ => rfl, PySem.W.mg_of X G0 a22⟩ (Ats.cons ⟨fun_mk (st := s_law_edit) l23 c23 k23, (fun_mk (st := s_law_edit) l23 c23 k23).binds (ps := ["draws", "many"]) fun _ _ _ _ _ _ us hl => match us, hl with | [_, _], _ => rfl, PySem.W.mg_of X G0 a23⟩ (Ats.cons ⟨fun_mk (st := s_law_joined) l24 c24 k24, (fun_mk (st := s_law_joined) l24 c24 k24).binds (ps := ["words"]) fun _ _ _ _ _ _ us hl => match us, hl with | [_], _ => rfl, PySem.W.mg_of X G0 a24⟩ (Ats.cons ⟨fun_mk (st := s_law_alike) l25 c25 k25, (fun_mk (st := s_law_alike) l25 c25 k25).binds (ps := ["one", "other"]) fun _ _ _ _ _ _ us hl => match us, hl with | [_, _], _ => rfl, PySem.W.mg_of X G0 a25⟩ (Ats.cons ⟨fun_mk (st := s_law_is_edit_told) l26 c26 k26, (fun_mk (st := s_law_is_edit_told) l26 c26 k26).binds (ps := ["draws", "word", "edit"]) fun _ _ _ _ _ _ us hl => match us, hl with | [_, _, _], _ => rfl, PySem.W.mg_of X G0 a26⟩ (Ats.cons ⟨fun_mk (st := s_law_are_rows_told) l27 c27 k27, (fun_mk (st := s_law_are_rows_told) l27 c27 k27).binds (ps := ["draws", "word"]) fun _ _ _ _ _ _ us hl => match us, hl with | [_, _], _ => rfl, PySem.W.mg_of X G0 a27⟩ (Ats.cons ⟨fun_mk (st := s_law) l28 c28 k28, (fun_mk (st := s_law) l28 c28 k28).binds (ps := ["script"]) fun _ _ _ _ _ _ us hl => match us, hl with | [_], _ => rfl, PySem.W.mg_of X G0 a28⟩ Ats.nil)))))))))))))))))))))))))))))
  refine ⟨PySem.W.fnOf "law" "law" (defArgs s_law) (defBody s_law) (defScope s_law) .none kV28 dc28 pm28 an28 cd28 ct28, fun s v => .of_eq rfl, fun base _ _ => ?_⟩
  refine (ats_ok (d := d_law) A (fun x hx hf => ?_) (by rfl) (by rfl)).imp (law_from law_true)
  simp only [bltNames, List.mem_cons, List.not_mem_nil, or_false] at hx
  rcases hx with rfl | rfl | rfl | rfl | rfl | rfl | rfl | rfl | rfl | rfl | rfl | rfl | rfl | rfl
  · exact PySem.W.mg_none_of X G0 z0
  · exact PySem.W.mg_none_of X G0 z1
  · exact PySem.W.mg_none_of X G0 z2
  · exact PySem.W.mg_none_of X G0 z3
  · exact PySem.W.mg_none_of X G0 z4
  · exact PySem.W.mg_none_of X G0 z5
  · exact PySem.W.mg_none_of X G0 z6
  · exact PySem.W.mg_none_of X G0 z7
  · exact PySem.W.mg_none_of X G0 z8
  · exact PySem.W.mg_none_of X G0 z9
  · exact PySem.W.mg_none_of X G0 z10
  · exact PySem.W.mg_none_of X G0 z11
  · exact PySem.W.mg_none_of X G0 z12
  · exact PySem.W.mg_none_of X G0 z13
end RS

set_option linter.all false
set_option maxRecDepth 100000
/-! Words, their order, least words, falling cuts. -/
namespace RS
abbrev W := List Int

theorem lx_irr : ∀ a : W, lexLt a a = false
  | [] => rfl
  | x :: a => by simp [lexLt, lx_irr a]
theorem lx_nil (a : W) : lexLt a [] = false := by cases a <;> rfl
theorem lx_nil_l (a : W) : lexLt [] a = true ↔ a ≠ [] := by cases a <;> simp [lexLt]
theorem lx_cons (x y : Int) (a b : W) : lexLt (x :: a) (y :: b) = true ↔ x < y ∨ (x = y ∧ lexLt a b = true) := by
  show (if x = y then lexLt a b else decide (x < y)) = true ↔ _
  by_cases h : x = y
  · simp [h]
  · simp [h]
theorem lx_tr : ∀ {a b c : W}, lexLt a b = true → lexLt b c = true → lexLt a c = true
  | _, b, [], h1, h2 => by rw [lx_nil] at h2; cases h2
  | _, [], _ :: _, h1, h2 => by rw [lx_nil] at h1; cases h1
  | [], _ :: _, _ :: _, _, _ => rfl
  | x :: a, y :: b, z :: c, h1, h2 => by
    rw [lx_cons] at h1 h2 ⊢
    rcases h1 with h1 | ⟨h1, h1'⟩ <;> rcases h2 with h2 | ⟨h2, h2'⟩
    · left; omega
    · left; omega
    · left; omega
    · right; exact ⟨by omega, lx_tr h1' h2'⟩
theorem lx_tot : ∀ (a b : W), lexLt a b = true ∨ a = b ∨ lexLt b a = true
  | [], [] => by simp
  | [], _ :: _ => Or.inl rfl
  | _ :: _, [] => Or.inr (Or.inr rfl)
  | x :: a, y :: b => by
    rw [lx_cons, lx_cons]
    rcases Int.lt_trichotomy x y with h | h | h
    · exact Or.inl (Or.inl h)
    · rcases lx_tot a b with g | g | g
      · exact Or.inl (Or.inr ⟨h, g⟩)
      · exact Or.inr (Or.inl (by rw [h, g]))
      · exact Or.inr (Or.inr (Or.inr ⟨h.symm, g⟩))
    · exact Or.inr (Or.inr (Or.inl h))
theorem lx_asym {a b : W} (h : lexLt a b = true) : lexLt b a = false := by
  cases e : lexLt b a with
  | false => rfl
  | true => have := lx_tr h e; rw [lx_irr] at this; cases this
theorem lx_ne {a b : W} (h : lexLt a b = true) : a ≠ b := by
  rintro rfl; rw [lx_irr] at h; cases h
theorem le_lt : ∀ (a b : W), lexLe a b = !lexLt b a
  | [], [] => rfl
  | [], _ :: _ => rfl
  | _ :: _, [] => rfl
  | x :: a, y :: b => by
    unfold lexLe lexLt
    by_cases h : x = y
    · subst h; simp [le_lt a b]
    · rw [if_neg h, if_neg (Ne.symm h)]
      rcases Int.lt_or_gt_of_ne h with g | g
      · simp [g]; omega
      · simp [g]; omega
/-- a is not greater than b -/
def WLe (a b : W) : Prop := lexLt b a = false
theorem WLe_refl (a : W) : WLe a a := lx_irr a
theorem WLe_of_lt {a b : W} (h : lexLt a b = true) : WLe a b := lx_asym h
theorem WLe_cases {a b : W} (h : WLe a b) : lexLt a b = true ∨ a = b := by
  rcases lx_tot a b with g | g | g
  · exact Or.inl g
  · exact Or.inr g
  · rw [WLe, g] at h; cases h
theorem WLe_lt {a b c : W} (h : WLe a b) (g : lexLt b c = true) : lexLt a c = true := by
  rcases WLe_cases h with e | e
  · exact lx_tr e g
  · rw [e]; exact g
theorem lt_Le {a b c : W} (g : lexLt a b = true) (h : WLe b c) : lexLt a c = true := by
  rcases WLe_cases h with e | e
  · exact lx_tr g e
  · rw [← e]; exact g
theorem WLe_tr {a b c : W} (g : WLe a b) (h : WLe b c) : WLe a c := by
  rcases WLe_cases g with e | e
  · exact WLe_of_lt (lt_Le e h)
  · rw [e]; exact h
theorem lt_of_not_Le {a b : W} (h : ¬ WLe a b) : lexLt b a = true := by
  cases e : lexLt b a with
  | true => rfl
  | false => exact absurd e h
theorem lx_app : ∀ (a b c : W), lexLt (a ++ b) (a ++ c) = lexLt b c
  | [], _, _ => rfl
  | x :: a, b, c => by simp [lexLt, lx_app a b c]
theorem lx_pre (a b : W) (h : b ≠ []) : lexLt a (a ++ b) = true := by
  have := lx_app a [] b
  rw [List.append_nil] at this
  rw [this, lx_nil_l]; exact h
theorem WLe_pre (a b : W) : WLe a (a ++ b) := by
  cases b with
  | nil => rw [List.append_nil]; exact WLe_refl a
  | cons x b => exact WLe_of_lt (lx_pre a _ (by simp))
/-- less at a place that both have -/
theorem lx_ext : ∀ (a b x y : W), lexLt a b = true → ¬ a <+: b → lexLt (a ++ x) (b ++ y) = true
  | [], b, _, _, _, h => absurd (List.nil_prefix) h
  | _ :: _, [], _, _, h, _ => by rw [lx_nil] at h; cases h
  | p :: a, q :: b, x, y, h, h2 => by
    rw [lx_cons] at h
    show lexLt (p :: (a ++ x)) (q :: (b ++ y)) = true
    rw [lx_cons]
    rcases h with h | ⟨h, h'⟩
    · exact Or.inl h
    · refine Or.inr ⟨h, lx_ext a b x y h' ?_⟩
      intro hp
      apply h2
      rw [h]
      exact (List.prefix_cons_inj q).mpr hp
theorem lx_ext_len {a b : W} (x y : W) (h : lexLt a b = true) (hl : b.length ≤ a.length) : lexLt (a ++ x) (b ++ y) = true := by
  apply lx_ext a b x y h
  intro hp
  have := hp.eq_of_length_le hl
  exact lx_ne h this

/-- a least word: less than each of its ends -/
def Lyn (w : W) : Prop := w ≠ [] ∧ ∀ u v : W, w = u ++ v → u ≠ [] → v ≠ [] → lexLt w v = true
theorem Lyn_one (x : Int) : Lyn [x] := by
  refine ⟨by simp, ?_⟩
  intro u v h hu hv
  have := congrArg List.length h
  simp at this
  cases u <;> cases v <;> simp_all
theorem Lyn_join {u v : W} (hu : Lyn u) (hv : Lyn v) (h : lexLt u v = true) : Lyn (u ++ v) := by
  have base : lexLt (u ++ v) v = true := by
    by_cases hp : u <+: v
    · obtain ⟨t, rfl⟩ := hp
      have ht : t ≠ [] := by
        rintro rfl
        rw [List.append_nil, lx_irr] at h; cases h
      have := hv.2 u t rfl hu.1 ht
      rw [lx_app]; exact this
    · have := lx_ext u v v [] h hp
      rwa [List.append_nil] at this
  refine ⟨by simp [hu.1], ?_⟩
  intro a b hab ha hb
  rcases List.append_eq_append_iff.mp hab with ⟨t, h1, h2⟩ | ⟨t, h1, h2⟩
  · -- a = u ++ t, v = t ++ b
    by_cases ht : t = []
    · subst ht
      simp at h2; rw [← h2]; exact base
    · exact lx_tr base (hv.2 t b h2 ht hb)
  · -- u = a ++ t, b = t ++ v
    by_cases ht : t = []
    · subst ht
      simp at h2; rw [h2]; exact base
    · have h3 := hu.2 a t h1 ha ht
      rw [h2]
      apply lx_ext_len v v h3
      rw [h1]; simp
/-- a least word is less than its other turns, and such a word is least -/
theorem Lyn_turns (w : W) (h0 : w ≠ []) : Lyn w ↔ ∀ k, 1 ≤ k → k < w.length → lexLe (w.drop k ++ w.take k) w = false := by
  constructor
  · intro h k h1 h2
    have h3 := h.2 (w.take k) (w.drop k) (List.take_append_drop k w).symm (by
      intro e; have := congrArg List.length e; rw [List.length_take, List.length_nil] at this; omega) (by
      intro e; have := congrArg List.length e; rw [List.length_drop, List.length_nil] at this; omega)
    have h4 := lx_ext_len [] (w.take k) h3 (by simp)
    rw [List.append_nil] at h4
    rw [le_lt, h4]; rfl
  · intro h
    refine ⟨h0, ?_⟩
    intro u v hw hu hv
    have key : ∀ a b : W, w = a ++ b → a ≠ [] → b ≠ [] → lexLt w (b ++ a) = true := by
      intro a b hab ha hb
      have := h a.length (by cases a <;> simp_all) (by rw [hab]; simp; cases b <;> simp_all)
      rw [hab] at this
      simp at this
      rw [le_lt] at this
      simp at this
      rw [hab]; exact this
    have k1 := key u v hw hu hv
    rcases lx_tot w v with g | g | g
    · exact g
    · have := congrArg List.length hw
      rw [g] at this; simp at this
      exact absurd this hu
    · by_cases hp : v <+: w
      · obtain ⟨t, ht⟩ := hp
        have hl : t.length = u.length := by
          have a1 := congrArg List.length hw
          have a2 := congrArg List.length ht
          simp at a1 a2; omega
        have ht0 : t ≠ [] := by
          intro e; rw [e] at hl; simp at hl
          exact hu (List.length_eq_zero_iff.mp hl.symm)
        have k2 := key v t ht.symm hv ht0
        rw [← ht, lx_app] at k1
        have k3 := lx_ext_len v v k1 (by omega)
        rw [← hw] at k3
        exact absurd (lx_tr k2 k3) (by rw [lx_irr]; simp)
      · have := lx_ext v w u [] g hp
        rw [List.append_nil] at this
        exact absurd (lx_tr k1 this) (by rw [lx_irr]; simp)
end RS

set_option linter.all false
set_option maxRecDepth 100000
namespace RS
/-- falling rows of least words -/
def Fal (l : List W) : Prop := (∀ a ∈ l, Lyn a) ∧ l.Pairwise (fun a b => WLe b a)
theorem Fal_nil : Fal [] := ⟨by simp, List.Pairwise.nil⟩
theorem Fal_cons {a : W} {r : List W} : Fal (a :: r) ↔ Lyn a ∧ (∀ b ∈ r, WLe b a) ∧ Fal r := by
  unfold Fal
  rw [List.pairwise_cons]
  constructor
  · rintro ⟨h1, h2, h3⟩
    exact ⟨h1 a (by simp), h2, fun x hx => h1 x (by simp [hx]), h3⟩
  · rintro ⟨h1, h2, h3, h4⟩
    refine ⟨?_, h2, h4⟩
    intro x hx
    rcases List.mem_cons.mp hx with rfl | hx
    · exact h1
    · exact h3 x hx
theorem Fal_cons_hd {a : W} {r : List W} (h1 : Lyn a) (h2 : ∀ b, r.head? = some b → WLe b a) (h3 : Fal r) : Fal (a :: r) := by
  rw [Fal_cons]
  refine ⟨h1, ?_, h3⟩
  cases r with
  | nil => simp
  | cons c r =>
    rw [Fal_cons] at h3
    intro b hb
    have hc := h2 c rfl
    rcases List.mem_cons.mp hb with rfl | hb
    · exact hc
    · exact WLe_tr (h3.2.1 b hb) hc
theorem Fal_app {l r : List W} : Fal (l ++ r) ↔ Fal l ∧ Fal r ∧ ∀ a ∈ l, ∀ b ∈ r, WLe b a := by
  unfold Fal
  rw [List.pairwise_append]
  constructor
  · rintro ⟨h1, h2, h3, h4⟩
    exact ⟨⟨fun a ha => h1 a (by simp [ha]), h2⟩, ⟨fun a ha => h1 a (by simp [ha]), h3⟩, h4⟩
  · rintro ⟨⟨h1, h2⟩, ⟨h3, h4⟩, h5⟩
    refine ⟨?_, h2, h4, h5⟩
    intro a ha
    rcases List.mem_append.mp ha with h | h
    · exact h1 a h
    · exact h3 a h
theorem Fal_ne {l : List W} (h : Fal l) {a : W} (ha : a ∈ l) : a ≠ [] := (h.1 a ha).1

theorem Fal_len : ∀ {l : List W}, Fal l → l.length ≤ l.flatten.length
  | [], _ => by simp
  | a :: r, h => by
    rw [Fal_cons] at h
    have := Fal_len h.2.2
    have ha : 0 < a.length := by have := h.1.1; cases a <;> simp_all
    rw [List.flatten_cons, List.length_append, List.length_cons]; omega
theorem end_in : ∀ (r : List W) (p : W), p ≠ [] → p <+: r.flatten → ∃ q t b, p = q ++ t ∧ t ≠ [] ∧ b ∈ r ∧ t <+: b
  | [], p, h, hp => by
    simp at hp; exact absurd hp h
  | c :: r, p, h, hp => by
    obtain ⟨y, hy⟩ := hp
    rw [List.flatten_cons] at hy
    rcases List.append_eq_append_iff.mp hy with ⟨t, h1, h2⟩ | ⟨t, h1, h2⟩
    · exact ⟨[], p, c, rfl, h, by simp, ⟨t, h1.symm⟩⟩
    · by_cases ht : t = []
      · subst ht
        rw [List.append_nil] at h1
        exact ⟨[], p, c, rfl, h, by simp, by rw [h1]; exact List.prefix_refl _⟩
      · obtain ⟨q, t', b, e1, e2, e3, e4⟩ := end_in r t ht ⟨y, h2.symm⟩
        exact ⟨c ++ q, t', b, by rw [h1, e1, List.append_assoc], e2, by simp [e3], e4⟩
theorem head_max {a : W} {r : List W} {p : W} (h : Fal (a :: r)) (hp : Lyn p) (hpre : p <+: (a :: r).flatten) : p.length ≤ a.length := by
  rcases Nat.lt_or_ge a.length p.length with hl | hl
  · rw [Fal_cons] at h
    obtain ⟨y, hy⟩ := hpre
    rw [List.flatten_cons] at hy
    rcases List.append_eq_append_iff.mp hy with ⟨t, h1, h2⟩ | ⟨t, h1, h2⟩
    · have := congrArg List.length h1
      simp at this; omega
    · have ht : t ≠ [] := by
        rintro rfl
        rw [List.append_nil] at h1; rw [h1] at hl; omega
      obtain ⟨q, t', b, e1, e2, e3, e4⟩ := end_in r t ht ⟨y, h2.symm⟩
      have k1 := hp.2 (a ++ q) t' (by rw [h1, e1, List.append_assoc]) (by simp [h.1.1]) e2
      obtain ⟨x, hx⟩ := e4
      have k2 : WLe t' b := by rw [← hx]; exact WLe_pre _ _
      have k3 := h.2.1 b e3
      have k4 : WLe a p := by rw [h1]; exact WLe_pre _ _
      have := lt_Le k1 (WLe_tr k2 (WLe_tr k3 k4))
      rw [lx_irr] at this; cases this
  · exact hl
theorem Fal_uniq : ∀ {l l' : List W}, Fal l → Fal l' → l.flatten = l'.flatten → l = l'
  | [], [], _, _, _ => rfl
  | [], b :: r, _, h, e => by
    rw [Fal_cons] at h
    have := h.1.1
    simp at e; exact absurd e.1 this
  | a :: r, [], h, _, e => by
    rw [Fal_cons] at h
    have := h.1.1
    simp at e; exact absurd e.1 this
  | a :: r, b :: q, h, g, e => by
    have h1 : b.length ≤ a.length := head_max h (Fal_cons.mp g).1 (by rw [e, List.flatten_cons]; exact List.prefix_append _ _)
    have h2 : a.length ≤ b.length := head_max g (Fal_cons.mp h).1 (by rw [← e, List.flatten_cons]; exact List.prefix_append _ _)
    rw [List.flatten_cons, List.flatten_cons] at e
    obtain ⟨e1, e2⟩ := List.append_inj e (by omega)
    rw [e1, Fal_uniq (Fal_cons.mp h).2.2 (Fal_cons.mp g).2.2 e2]

/-- a word put behind a row, told backwards -/
def pbR : List W → W → List W
  | [], w => [w]
  | x :: r, w => if lexLt x w then pbR r (x ++ w) else w :: x :: r
def pb (l : List W) (w : W) : List W := (pbR l.reverse w).reverse
theorem pbR_spec : ∀ (r : List W) (w : W), Fal r.reverse → Lyn w → Fal (pbR r w).reverse ∧ (pbR r w).reverse.flatten = r.reverse.flatten ++ w
  | [], w, _, hw => by
    refine ⟨?_, by simp [pbR]⟩
    show Fal [w]
    rw [Fal_cons]; exact ⟨hw, by simp, Fal_nil⟩
  | x :: r, w, h, hw => by
    rw [List.reverse_cons, Fal_app] at h
    unfold pbR
    by_cases hx : lexLt x w = true
    · rw [if_pos hx]
      have hL : Lyn (x ++ w) := Lyn_join (h.2.1.1 x (by simp)) hw hx
      have := pbR_spec r (x ++ w) h.1 hL
      refine ⟨this.1, ?_⟩
      rw [this.2]; simp
    · rw [if_neg hx]
      refine ⟨?_, by simp⟩
      rw [List.reverse_cons, List.reverse_cons, Fal_app, Fal_app]
      have hle : WLe w x := by unfold WLe; simpa using hx
      refine ⟨h, ?_, ?_⟩
      · rw [Fal_cons]; exact ⟨hw, by simp, Fal_nil⟩
      · intro a ha b hb
        simp at hb; subst hb
        rcases List.mem_append.mp ha with g | g
        · exact WLe_tr hle (h.2.2 a g x (by simp))
        · simp at g; rw [g]; exact hle
theorem pb_spec {l : List W} {w : W} (h : Fal l) (hw : Lyn w) : Fal (pb l w) ∧ (pb l w).flatten = l.flatten ++ w := by
  have := pbR_spec l.reverse w (by rw [List.reverse_reverse]; exact h) hw
  rw [List.reverse_reverse] at this
  exact this
def fal (row : List W) : List W := row.foldl pb []
theorem fal_go : ∀ (row l : List W), Fal l → (∀ w ∈ row, Lyn w) → Fal (row.foldl pb l) ∧ (row.foldl pb l).flatten = l.flatten ++ row.flatten
  | [], l, h, _ => by simpa using h
  | w :: row, l, h, hr => by
    have h1 := pb_spec h (hr w (by simp))
    have := fal_go row (pb l w) h1.1 (fun x hx => hr x (by simp [hx]))
    rw [List.foldl_cons]
    refine ⟨this.1, ?_⟩
    rw [this.2, h1.2]; simp
theorem fal_spec {row : List W} (hr : ∀ w ∈ row, Lyn w) : Fal (fal row) ∧ (fal row).flatten = row.flatten := by
  have := fal_go row [] Fal_nil hr
  simpa [fal] using this
/-- the falling cut -/
def lc (w : W) : List W := fal (w.map fun x => [x])
theorem lc_Fal (w : W) : Fal (lc w) := (fal_spec (by simp; intro a _; exact Lyn_one a)).1
theorem flat_ones : ∀ w : W, (w.map fun x => [x]).flatten = w
  | [] => rfl
  | x :: w => by simp [flat_ones w]
theorem lc_flat (w : W) : (lc w).flatten = w := by
  rw [lc, (fal_spec (by simp; intro a _; exact Lyn_one a)).2, flat_ones]
theorem lc_of {l : List W} {w : W} (h : Fal l) (e : l.flatten = w) : lc w = l := Fal_uniq (lc_Fal w) h (by rw [lc_flat, e])
theorem lc_nil : lc [] = [] := rfl
theorem fal_lc {row : List W} (hr : ∀ w ∈ row, Lyn w) : fal row = lc row.flatten := (lc_of (fal_spec hr).1 (fal_spec hr).2).symm
theorem pb_lc {w p : W} (hp : Lyn p) : pb (lc w) p = lc (w ++ p) := by
  have := pb_spec (lc_Fal w) hp
  exact (lc_of this.1 (by rw [this.2, lc_flat])).symm

/-! ### the cut by looking back -/
theorem lx_first : ∀ (d : Nat) (a b : W), d < a.length → d < b.length → (∀ i, i < d → a.getD i 0 = b.getD i 0) → a.getD d 0 < b.getD d 0 → lexLt a b = true
  | _, [], _, h, _, _, _ => by simp at h
  | _, _ :: _, [], _, h, _, _ => by simp at h
  | 0, x :: a, y :: b, _, _, _, h => by
    rw [lx_cons]; left; simpa using h
  | d + 1, x :: a, y :: b, h1, h2, h3, h4 => by
    rw [lx_cons]; right
    refine ⟨by simpa using h3 0 (by omega), lx_first d a b (by simpa using h1) (by simpa using h2) ?_ (by simpa using h4)⟩
    intro i hi
    simpa using h3 (i + 1) (by omega)
def LynZ (z : Nat → Int) (p : Nat) : Prop := ∀ j, 0 < j → j < p → ∃ d, j + d < p ∧ (∀ i, i < d → z (j + i) = z i) ∧ z d < z (j + d)
theorem Lyn_of_Z {s : W} {p : Nat} (h0 : 0 < p) (hp : p ≤ s.length) (h : LynZ (fun i => s.getD i 0) p) : Lyn (s.take p) := by
  refine ⟨?_, ?_⟩
  · intro e; have := congrArg List.length e; rw [List.length_take, List.length_nil] at this; omega
  · intro u v e hu hv
    have hl := congrArg List.length e
    rw [List.length_take, List.length_append] at hl
    have hu' : 0 < u.length := by cases u <;> simp_all
    have hv' : 0 < v.length := by cases v <;> simp_all
    obtain ⟨d, hd, hi, hlt⟩ := h u.length hu' (by omega)
    have ge : ∀ i, i < p → (s.take p).getD i 0 = s.getD i 0 := by
      intro i hi
      simp [List.getD, List.getElem?_take, hi]
    have gv : ∀ i, u.length + i < p → v.getD i 0 = s.getD (u.length + i) 0 := by
      intro i hi
      rw [← ge _ hi, e]
      simp only [List.getD]
      rw [List.getElem?_append_right (by omega), show u.length + i - u.length = i by omega]
    apply lx_first d
    · rw [List.length_take]; omega
    · omega
    · intro i hi'
      rw [ge i (by omega), gv i (by omega)]
      exact (hi i hi').symm
    · rw [ge d (by omega), gv d (by omega)]
      exact hlt
structure Duv (z : Nat → Int) (n p : Nat) : Prop where
  p1 : 1 ≤ p
  pn : p ≤ n
  lyn : LynZ z p
  per : ∀ i, p + i < n → z (p + i) = z i
  suf : ∀ j, 0 < j → j ≤ n → (∃ d, j + d < n ∧ (∀ i, i < d → z (j + i) = z i) ∧ z d < z (j + d)) ∨ ((∀ i, j + i < n → z (j + i) = z i) ∧ p ≤ j)
theorem Duv_one (z : Nat → Int) : Duv z 1 1 where
  p1 := by omega
  pn := by omega
  lyn := by intro j h1 h2; omega
  per := by intro i h; omega
  suf := by intro j h1 h2; right; exact ⟨by intro i h; omega, by omega⟩
theorem Duv_le {z : Nat → Int} {n p : Nat} (h : Duv z n p) {j : Nat} (hj : 0 < j) (hn : j ≤ n) (he : ∀ i, j + i < n → z (j + i) = z i) (hp : p ≤ j) : z (n - j) ≤ z (n - p) := by
  rcases Nat.lt_or_ge p j with hlt | hge
  · have h1 := h.p1
    rcases h.suf (j - p) (by omega) (by omega) with ⟨d, hd, hi, hz⟩ | ⟨hi, _⟩
    · rcases Nat.lt_trichotomy d (n - j) with g | g | g
      · have e1 := h.per (j - p + d) (by omega)
        rw [show p + (j - p + d) = j + d by omega] at e1
        have e2 := he d (by omega)
        omega
      · rw [← g, show n - p = j - p + d by omega]; omega
      · have := hi (n - j) g
        rw [show j - p + (n - j) = n - p by omega] at this
        omega
    · have := hi (n - j) (by omega)
      rw [show j - p + (n - j) = n - p by omega] at this
      omega
  · have : p = j := by omega
    rw [this]; omega
theorem Duv_up {z : Nat → Int} {n p : Nat} (h : Duv z n p) (hz : z (n - p) < z n) : Duv z (n + 1) (n + 1) := by
  have hs : ∀ j, 0 < j → j ≤ n → ∃ d, j + d < n + 1 ∧ (∀ i, i < d → z (j + i) = z i) ∧ z d < z (j + d) := by
    intro j h1 h2
    rcases h.suf j h1 h2 with ⟨d, hd, hi, hl⟩ | ⟨he, hp⟩
    · exact ⟨d, by omega, hi, hl⟩
    · refine ⟨n - j, by omega, ?_, ?_⟩
      · intro i hi; exact he i (by omega)
      · have := Duv_le h h1 h2 he hp
        rw [show j + (n - j) = n by omega]; omega
  exact {
    p1 := by omega
    pn := by omega
    lyn := by intro j h1 h2; exact hs j h1 (by omega)
    per := by intro i hi; omega
    suf := by
      intro j h1 h2
      rcases Nat.lt_or_ge n j with g | g
      · right; exact ⟨by intro i hi; omega, by omega⟩
      · left; exact hs j h1 g }
theorem Duv_eq {z : Nat → Int} {n p : Nat} (h : Duv z n p) (hz : z (n - p) = z n) : Duv z (n + 1) p where
  p1 := h.p1
  pn := by have := h.pn; omega
  lyn := h.lyn
  per := by
    intro i hi
    rcases Nat.lt_or_ge (p + i) n with g | g
    · exact h.per i g
    · have : p + i = n := by omega
      rw [this, show i = n - p by omega]; exact hz.symm
  suf := by
    intro j h1 h2
    have hpn := h.pn
    have hp1 := h.p1
    rcases Nat.lt_or_ge n j with g | g
    · right; exact ⟨by intro i hi; omega, by omega⟩
    · rcases h.suf j h1 g with ⟨d, hd, hi, hl⟩ | ⟨he, hp⟩
      · left; exact ⟨d, by omega, hi, hl⟩
      · have hle := Duv_le h h1 g he hp
        rcases Int.lt_or_eq_of_le hle with k | k
        · left
          refine ⟨n - j, by omega, ?_, ?_⟩
          · intro i hi; exact he i (by omega)
          · rw [show j + (n - j) = n by omega]; omega
        · right
          refine ⟨?_, hp⟩
          intro i hi
          rcases Nat.lt_or_ge (j + i) n with g2 | g2
          · exact he i g2
          · have : j + i = n := by omega
            rw [this, show i = n - j by omega]; omega
/-- s begins with u again and again, n letters long, and falls off there -/
def Per (u s : W) (n : Nat) : Prop := n ≤ s.length ∧ (∀ i, i < n → s.getD i 0 = u.getD (i % u.length) 0) ∧ (n = s.length ∨ s.getD n 0 < u.getD (n % u.length) 0)
theorem getD_ext : ∀ (a b : W), a.length = b.length → (∀ i, i < a.length → a.getD i 0 = b.getD i 0) → a = b
  | [], [], _, _ => rfl
  | [], _ :: _, h, _ => by simp at h
  | _ :: _, [], h, _ => by simp at h
  | x :: a, y :: b, h, g => by
    have h0 := g 0 (by simp)
    simp at h0
    rw [h0, getD_ext a b (by simpa using h) (by intro i hi; simpa using g (i + 1) (by simpa using hi))]
theorem getD_take (s : W) (p i : Nat) (h : i < p) : (s.take p).getD i 0 = s.getD i 0 := by
  simp [List.getD, List.getElem?_take, h]
theorem getD_drop (s : W) (p i : Nat) : (s.drop p).getD i 0 = s.getD (p + i) 0 := by
  simp [List.getD, List.getElem?_drop]
theorem Per_take {u s : W} {n : Nat} (h : Per u s n) (hp : u.length ≤ n) : s.take u.length = u := by
  apply getD_ext
  · rw [List.length_take]; have := h.1; omega
  · intro i hi
    rw [List.length_take] at hi
    rw [getD_take s _ i (by omega), h.2.1 i (by omega), Nat.mod_eq_of_lt (by omega)]
theorem Per_drop {u s : W} {n : Nat} (h : Per u s n) (hp : u.length ≤ n) : Per u (s.drop u.length) (n - u.length) := by
  refine ⟨?_, ?_, ?_⟩
  · rw [List.length_drop]; have := h.1; omega
  · intro i hi
    rw [getD_drop, h.2.1 _ (by omega), Nat.add_mod_left]
  · rcases h.2.2 with g | g
    · left; rw [List.length_drop]; omega
    · right
      rw [getD_drop, show u.length + (n - u.length) = n by omega]
      have : (n - u.length) % u.length = n % u.length := by
        conv => rhs; rw [show n = u.length + (n - u.length) by omega]
        rw [Nat.add_mod_left]
      rw [this]; exact g
theorem Per_le {u s h : W} {n : Nat} (hP : Per u s n) (hn : n < u.length) (hh : h <+: s) : WLe h u := by
  obtain ⟨t, ht⟩ := hh
  have gh : ∀ i, i < h.length → h.getD i 0 = s.getD i 0 := by
    intro i hi
    rw [← ht]; simp [List.getD, List.getElem?_append, hi]
  have hlen := congrArg List.length ht
  rw [List.length_append] at hlen
  rcases Nat.lt_or_ge n h.length with g | g
  · apply WLe_of_lt
    apply lx_first n h u g hn
    · intro i hi
      rw [gh i (by omega), hP.2.1 i hi, Nat.mod_eq_of_lt (by omega)]
    · rw [gh n g]
      rcases hP.2.2 with k | k
      · have := hP.1; omega
      · rwa [Nat.mod_eq_of_lt hn] at k
  · have : h = u.take h.length := by
      apply getD_ext
      · rw [List.length_take]; omega
      · intro i hi
        rw [getD_take u _ i hi, gh i hi, hP.2.1 i (by omega), Nat.mod_eq_of_lt (by omega)]
    rw [this]
    have := WLe_pre (u.take h.length) (u.drop h.length)
    rwa [List.take_append_drop] at this
theorem lc_head {s h : W} (e : (lc s).head? = some h) : h <+: s := by
  have := lc_flat s
  cases e2 : lc s with
  | nil => rw [e2] at e; cases e
  | cons a r =>
    rw [e2] at e this
    cases e
    rw [← this, List.flatten_cons]; exact List.prefix_append _ _
theorem lc_step {u : W} (hu : Lyn u) : ∀ (n : Nat) (s : W), Per u s n → (∀ h, (lc s).head? = some h → WLe h u) ∧ (u.length ≤ n → lc s = u :: lc (s.drop u.length)) := by
  intro n
  induction n using Nat.strongRecOn with
  | ind n ih =>
    intro s hP
    have hu0 : 0 < u.length := by have := hu.1; cases u <;> simp_all
    rcases Nat.lt_or_ge n u.length with g | g
    · refine ⟨?_, by intro h; omega⟩
      intro h hh
      exact Per_le hP g (lc_head hh)
    · have h1 := (ih (n - u.length) (by omega) _ (Per_drop hP g)).1
      have e : lc s = u :: lc (s.drop u.length) := by
        apply lc_of (Fal_cons_hd hu h1 (lc_Fal _))
        rw [List.flatten_cons, lc_flat]
        conv => lhs; lhs; rw [← Per_take hP g]
        exact List.take_append_drop _ _
      refine ⟨?_, fun _ => e⟩
      intro h hh
      rw [e] at hh
      cases hh
      exact WLe_refl _
theorem per_mod {z : Nat → Int} {n p : Nat} (hp : 1 ≤ p) (h : ∀ i, p + i < n → z (p + i) = z i) : ∀ i, i < n → z i = z (i % p) := by
  intro i
  induction i using Nat.strongRecOn with
  | ind i ih =>
    intro hi
    rcases Nat.lt_or_ge i p with g | g
    · rw [Nat.mod_eq_of_lt g]
    · have e1 := h (i - p) (by omega)
      rw [show p + (i - p) = i by omega] at e1
      rw [e1, ih (i - p) (by omega) (by omega)]
      congr 1
      conv => rhs; rw [show i = p + (i - p) by omega]
      rw [Nat.add_mod_left]
theorem Per_of_Duv {s : W} {n p : Nat} (h : Duv (fun i => s.getD i 0) n p) (hn : n ≤ s.length) (hs : n = s.length ∨ s.getD n 0 < s.getD (n - p) 0) : Per (s.take p) s n ∧ Lyn (s.take p) ∧ (s.take p).length = p := by
  have hpn := h.pn
  have hp1 := h.p1
  have hl : (s.take p).length = p := by rw [List.length_take]; omega
  refine ⟨⟨hn, ?_, ?_⟩, Lyn_of_Z (by omega) (by omega) h.lyn, hl⟩
  · intro i hi
    rw [hl, getD_take s p _ (Nat.mod_lt _ (by omega))]
    exact per_mod (z := fun i => s.getD i 0) hp1 h.per i hi
  · rcases hs with g | g
    · exact Or.inl g
    · right
      rw [hl, getD_take s p _ (Nat.mod_lt _ (by omega))]
      have := per_mod (z := fun i => s.getD i 0) hp1 h.per (n - p) (by omega)
      have e : (n - p) % p = n % p := by
        conv => rhs; rw [show n = p + (n - p) by omega]
        rw [Nat.add_mod_left]
      rw [e] at this
      omega
end RS

set_option linter.all false
set_option maxRecDepth 100000
/-! How the engine computes: rules for simp. What follows a step is hidden until the step has come. -/
namespace RS
open PySem (Str)
theorem nr {α : Sort u} {a b : α} (h : a = b) : a = b := h
class Kn (α β : Type) where
  f : α → Out β
def bnd {α β : Type} (x : Out α) [k : Kn α β] : Out β := x >>= k.f
@[simp ↓] theorem bind_hide {α β : Type} (x : Out α) (f : α → Out β) : (x >>= f) = @bnd α β x ⟨f⟩ := nr rfl
@[simp] theorem bnd_ok {α β : Type} (a : α) (f : α → Out β) : @bnd α β (.ok a) ⟨f⟩ = f a := nr rfl
@[simp] theorem bnd_bad {α β : Type} (k : Kn α β) : @bnd α β .bad k = .bad := nr rfl
@[simp] theorem bnd_assoc {α β γ : Type} (x : Out α) (f : α → Out β) (g : β → Out γ) : @bnd β γ (@bnd α β x ⟨f⟩) ⟨g⟩ = @bnd α γ x ⟨fun a => @bnd β γ (f a) ⟨g⟩⟩ := by cases x <;> rfl
theorem bnd_of {α β : Type} {x : Out α} {a : α} {f : α → Out β} {r} (h : x = .ok a) (h2 : f a = r) : @bnd α β x ⟨f⟩ = r := by rw [h]; exact h2

section
variable (cf : Nat → List Val → Sto → Out (Val × Sto))
noncomputable def compBody (vs : List Nat) (tg : Tg) (cond : Exs) (elt : Ex) (ρ : Env) : PV → Sto → Out (Option PV × Sto) := fun x S => do
      let ρ1 ← bindT S tg (.pv x) (wipe ρ vs)
      let (b, S) ← evalCs cf cond ρ1 S
      if b then do
        let (v, S) ← evalE cf elt ρ1 S
        let p ← item v
        .ok (some p, S)
      else .ok (none, S)
noncomputable def forBody (t : Tg) (b : Blk) : PV → Env → Sto → Out (Flow × Env × Sto) := fun x ρ S => do
      let ρ1 ← bindT S t (.pv x) ρ
      evalB cf b ρ1 S
noncomputable def whBody (c : Ex) (b : Blk) : Turn := fun s => do
      let (v, S) ← evalE cf c s.1 s.2
      let p ← rd S v
      if trOk p then (if truthy p then do
          let (fl, ρ, S) ← evalB cf b s.1 S
          match fl with
          | .nx => .ok (.inl (ρ, S))
          | .ct => .ok (.inl (ρ, S))
          | .bk => .ok (.inr (.nx, ρ, S))
          | .rt v => .ok (.inr (.rt v, ρ, S))
        else .ok (.inr (.nx, s.1, S))) else .bad

@[simp] theorem x_var (i ρ S) : evalE cf (.var i) ρ S = (getv ρ i >>= fun v => .ok (v, S)) := by rw [evalE]
@[simp] theorem x_cst (p ρ S) : evalE cf (.cst p) ρ S = .ok (.pv p, S) := by rw [evalE]
@[simp] theorem x_tup (es ρ S) : evalE cf (.tup es) ρ S = (evalEs cf es ρ S >>= fun (vs, S) => items vs >>= fun ps => if ps.length ≤ line then .ok (.pv (.tup ps), S) else .bad) := by rw [evalE]
@[simp] theorem x_lst (es ρ S) : evalE cf (.lst es) ρ S = (evalEs cf es ρ S >>= fun (vs, S) => items vs >>= fun ps => if ps.length ≤ line then .ok (.new (.lst ps), S) else .bad) := by rw [evalE]
@[simp] theorem x_op1 (o a ρ S) : evalE cf (.op1 o a) ρ S = (evalE cf a ρ S >>= fun (v, S) => rd S v >>= fun p => ofO (op1 o p) >>= fun r => .ok (fresh r, S)) := by rw [evalE]
@[simp] theorem x_op2 (o a b ρ S) : evalE cf (.op2 o a b) ρ S = (evalE cf a ρ S >>= fun (v, S) => evalE cf b ρ S >>= fun (u, S) => rd S v >>= fun p => rd S u >>= fun q => ofO (op2 o p q) >>= fun r => .ok (o.res r, S)) := by rw [evalE]
@[simp] theorem x_slc (a lo hi ρ S) : evalE cf (.slc a lo hi) ρ S = (evalE cf a ρ S >>= fun (v, S) => evalO cf lo ρ S >>= fun (l, S) => evalO cf hi ρ S >>= fun (h, S) => rd S v >>= fun p => ofO (opSl p l h) >>= fun r => .ok (fresh r, S)) := by rw [evalE]
@[simp] theorem x_and (a b ρ S) : evalE cf (.and a b) ρ S = (evalE cf a ρ S >>= fun (v, S) => rd S v >>= fun p => if trOk p then (if truthy p then evalE cf b ρ S else .ok (norm v, S)) else .bad) := by rw [evalE]
@[simp] theorem x_or (a b ρ S) : evalE cf (.or a b) ρ S = (evalE cf a ρ S >>= fun (v, S) => rd S v >>= fun p => if trOk p then (if truthy p then .ok (norm v, S) else evalE cf b ρ S) else .bad) := by rw [evalE]
@[simp] theorem x_ite (c a b ρ S) : evalE cf (.ite c a b) ρ S = (evalE cf c ρ S >>= fun (v, S) => rd S v >>= fun p => if trOk p then (if truthy p then evalE cf a ρ S else evalE cf b ρ S) else .bad) := by rw [evalE]
@[simp] theorem x_chain (o o' a b c ρ S) : evalE cf (.chain o o' a b c) ρ S = (evalE cf a ρ S >>= fun (v, S) => evalE cf b ρ S >>= fun (u, S) => rd S v >>= fun p => rd S u >>= fun q => ofO (op2 o p q) >>= fun r =>
    match r with
    | .bl true => (evalE cf c ρ S >>= fun (w, S) => rd S u >>= fun q => rd S w >>= fun t => ofO (op2 o' q t) >>= fun r => .ok (o'.res r, S))
    | .bl false => .ok (.pv (.bl false), S)
    | _ => .bad) := by rw [evalE] <;> rfl
@[simp] theorem x_comp (vs tg it cond elt ρ S) : evalE cf (.comp vs tg it cond elt) ρ S = (evalIt cf it ρ S >>= fun (xs, src, S) => loopC (compBody cf vs tg cond elt ρ) src xs xs S >>= fun (ys, S) => if ys.length ≤ line then .ok (.new (.lst ys), S) else .bad) := by rw [evalE] <;> rfl
@[simp] theorem x_call (f es ρ S) : evalE cf (.call f es) ρ S = (evalEs cf es ρ S >>= fun (vs, S) => cf f vs S) := by rw [evalE]
@[simp] theorem x_box (e ρ S) : evalE cf (.box e) ρ S = (evalE cf e ρ S >>= fun (v, S) => match v with
    | .new c => .ok (.loc S.length, S ++ [c])
    | .loc l => .ok (.loc l, S)
    | .pv _ => .bad) := by rw [evalE] <;> rfl
@[simp] theorem x_mut (m o es ρ S) : evalE cf (.mut m o es) ρ S = (evalE cf o ρ S >>= fun (v, S) => evalEs cf es ρ S >>= fun (vs, S) => items vs >>= fun ps => mutOp S m v ps) := by rw [evalE]
@[simp] theorem xs_nil (ρ S) : evalEs cf .nil ρ S = .ok ([], S) := by rw [evalEs]
@[simp] theorem xs_cons (e r ρ S) : evalEs cf (.cons e r) ρ S = (evalE cf e ρ S >>= fun (v, S) => evalEs cf r ρ S >>= fun (vs, S) => .ok (norm v :: vs, S)) := by rw [evalEs]
@[simp] theorem xo_nil (ρ S) : evalO cf .nil ρ S = .ok (none, S) := by rw [evalO]
@[simp] theorem xo_cons (e r ρ S) : evalO cf (.cons e r) ρ S = (evalE cf e ρ S >>= fun (v, S) => match v with
    | .pv (.int i) => .ok (some i, S)
    | _ => .bad) := by rw [evalO] <;> rfl
@[simp] theorem xc_nil (ρ S) : evalCs cf .nil ρ S = .ok (true, S) := by rw [evalCs]
@[simp] theorem xc_cons (e r ρ S) : evalCs cf (.cons e r) ρ S = (evalE cf e ρ S >>= fun (v, S) => rd S v >>= fun p => if trOk p then .ok (truthy p, S) else .bad) := by rw [evalCs]
@[simp] theorem xi_ex (e ρ S) : evalIt cf (.ex e) ρ S = (evalE cf e ρ S >>= fun (v, S) => iterOf S v >>= fun (xs, src) => .ok (xs, src, S)) := by rw [evalIt]
@[simp] theorem xi_rng (es ρ S) : evalIt cf (.rng es) ρ S = (evalEs cf es ρ S >>= fun (vs, S) => items vs >>= fun ps => opRng ps >>= fun xs => .ok (xs, none, S)) := by rw [evalIt]
@[simp] theorem s_set (t e ρ S) : evalS cf (.set t e) ρ S = (evalE cf e ρ S >>= fun (v, S) => bindT S t (norm v) ρ >>= fun ρ => .ok (.nx, ρ, S)) := by rw [evalS]
@[simp] theorem s_par (is es ρ S) : evalS cf (.par is es) ρ S = (evalEs cf es ρ S >>= fun (vs, S) => if vs.length = is.length then .ok (.nx, setvs is vs ρ, S) else .bad) := by rw [evalS]
@[simp] theorem s_aug (i o e ρ S) : evalS cf (.aug i o e) ρ S = (getv ρ i >>= fun v => evalE cf e ρ S >>= fun (u, S) => 
    match v with
    | .pv p => (rd S u >>= fun q => ofO (op2 o p q) >>= fun r => match r with
      | .lst _ => .bad
      | _ => .ok (.nx, ρ.set i (some (.pv r)), S))
    | .loc l => (match S[l]?, u with
      | some (.lst xs), .pv (.lst ys) => if o = .add ∧ xs.length + ys.length ≤ line then .ok (.nx, ρ, S.set l (.lst (xs ++ ys))) else .bad
      | some (.lst xs), .new (.lst ys) => if o = .add ∧ xs.length + ys.length ≤ line then .ok (.nx, ρ, S.set l (.lst (xs ++ ys))) else .bad
      | _, _ => .bad)
    | _ => .bad) := by rw [evalS] <;> rfl
@[simp] theorem s_seti (o i e ρ S) : evalS cf (.seti o i e) ρ S = (evalE cf e ρ S >>= fun (v, S) => item v >>= fun p => evalE cf o ρ S >>= fun (a, S) => evalE cf i ρ S >>= fun (k, S) =>
    match a, k with
    | .loc l, .pv (.int j) => (match S[l]? with
      | some (.lst xs) => if 0 ≤ j ∧ j < xs.length then .ok (.nx, ρ, S.set l (.lst (xs.set j.toNat p))) else .bad
      | none => .bad)
    | _, _ => .bad) := by rw [evalS] <;> rfl
@[simp] theorem s_exp (e ρ S) : evalS cf (.exp e) ρ S = (evalE cf e ρ S >>= fun (_, S) => .ok (.nx, ρ, S)) := by rw [evalS]
@[simp] theorem s_ret (e ρ S) : evalS cf (.ret e) ρ S = (evalE cf e ρ S >>= fun (v, S) => .ok (.rt v, ρ, S)) := by rw [evalS]
@[simp] theorem s_retN (ρ S) : evalS cf .retN ρ S = .ok (.rt (.pv .non), ρ, S) := by rw [evalS]
@[simp] theorem s_ifs (c a b ρ S) : evalS cf (.ifs c a b) ρ S = (evalE cf c ρ S >>= fun (v, S) => rd S v >>= fun p => if trOk p then (if truthy p then evalB cf a ρ S else evalB cf b ρ S) else .bad) := by rw [evalS]
@[simp] theorem s_whl (c b ρ S) : evalS cf (.whl c b) ρ S = loopW (whBody cf c b) (ρ, S) := by rw [evalS] <;> rfl
@[simp] theorem s_for (t it b ρ S) : evalS cf (.for_ t it b) ρ S = (evalIt cf it ρ S >>= fun (xs, src, S) => loopF (forBody cf t b) src xs xs ρ S) := by rw [evalS] <;> rfl
@[simp] theorem s_pass (ρ S) : evalS cf .pass ρ S = .ok (.nx, ρ, S) := by rw [evalS]
@[simp] theorem s_brk (ρ S) : evalS cf .brk ρ S = .ok (.bk, ρ, S) := by rw [evalS]
@[simp] theorem s_cont (ρ S) : evalS cf .cont ρ S = .ok (.ct, ρ, S) := by rw [evalS]
@[simp] theorem b_nil (ρ S) : evalB cf .nil ρ S = .ok (.nx, ρ, S) := by rw [evalB]
@[simp] theorem b_cons (s r ρ S) : evalB cf (.cons s r) ρ S = (evalS cf s ρ S >>= fun (fl, ρ, S) => match fl with
    | .nx => evalB cf r ρ S
    | _ => .ok (fl, ρ, S)) := by rw [evalB] <;> rfl
end
theorem call_start {Γ : Nat → Option Fn} {k f : Nat} {args : List Val} {S : Sto} {d : Fn} (h : Γ f = some d) : callF Γ (k + 1) f args S = runFn (callF Γ k) d args S := by
  rw [callF, h]
@[simp] theorem rd_pv (S p) : rd S (.pv p) = .ok p := nr rfl
@[simp] theorem rd_new (S c) : rd S (.new c) = .ok c.pv := nr rfl
@[simp] theorem pv_lst (xs) : Cell.pv (.lst xs) = .lst xs := nr rfl
@[simp] theorem norm_pv (p) : norm (.pv p) = .pv p := nr rfl
@[simp] theorem norm_loc (p) : norm (.loc p) = .loc p := nr rfl
@[simp] theorem norm_new (p) : norm (.new p) = .pv p.pv := nr rfl
@[simp] theorem item_pv (p) : item (.pv p) = .ok p := nr rfl
@[simp] theorem item_new (p) : item (.new p) = .ok p.pv := nr rfl
@[simp] theorem items_nil : items [] = .ok [] := nr rfl
@[simp] theorem items_cons (v r) : items (v :: r) = (item v >>= fun p => items r >>= fun ps => .ok (p :: ps)) := nr rfl
@[simp] theorem getv_0 (v ρ) : getv (some v :: ρ) 0 = .ok v := nr rfl
@[simp] theorem getv_s (x ρ i) : getv (x :: ρ) (i + 1) = getv ρ i := by unfold getv; simp
@[simp] theorem setvs_nil (vs ρ) : setvs [] vs ρ = ρ := by unfold setvs; rfl
@[simp] theorem setvs_nil' (is ρ) : setvs is [] ρ = ρ := by cases is <;> (unfold setvs; rfl)
@[simp] theorem setvs_cons (i is v vs ρ) : setvs (i :: is) (v :: vs) ρ = setvs is vs (ρ.set i (some v)) := by rw [setvs]
@[simp] theorem bindT_name (S i v ρ) : bindT S (.name i) v ρ = .ok (ρ.set i (some v)) := nr rfl
@[simp] theorem bindT_tup (S is xs ρ) (h : xs.length = is.length) : bindT S (.tup is) (.pv (.tup xs)) ρ = .ok (setvs is (xs.map .pv) ρ) := by
  simp [bindT, h]
@[simp] theorem wipe_nil (ρ) : wipe ρ [] = ρ := nr rfl
@[simp] theorem wipe_cons (ρ v vs) : wipe ρ (v :: vs) = (wipe ρ vs).set v none := nr rfl
@[simp] theorem iterOf_tup (S xs) : iterOf S (.pv (.tup xs)) = .ok (xs, none) := nr rfl
@[simp] theorem iterOf_lst (S xs) : iterOf S (.pv (.lst xs)) = .ok (xs, none) := nr rfl
@[simp] theorem iterOf_new (S xs) : iterOf S (.new (.lst xs)) = .ok (xs, none) := nr rfl
@[simp] theorem iterOf_scr (S xs) : iterOf S (.pv (.scr xs)) = .ok (xs.map .int, none) := nr rfl
@[simp] theorem handed_pv (n S p) : handed n S (.pv p) = .ok (.pv p, S.take n) := nr rfl
@[simp] theorem handed_new (n S p) : handed n S (.new p) = .ok (.new p, S.take n) := nr rfl
@[simp] theorem res_idx (p) : Op2.res .idx p = .pv p := nr rfl
@[simp] theorem res_bl (o : Op2) (b) : Op2.res o (.bl b) = .pv (.bl b) := by cases o <;> rfl
@[simp] theorem res_int (o : Op2) (b) : Op2.res o (.int b) = .pv (.int b) := by cases o <;> rfl
@[simp] theorem res_tup (o : Op2) (b) : Op2.res o (.tup b) = .pv (.tup b) := by cases o <;> rfl
@[simp] theorem res_add_lst (b) : Op2.res .add (.lst b) = .new (.lst b) := nr rfl
@[simp] theorem fresh_bl (b) : fresh (.bl b) = .pv (.bl b) := nr rfl
@[simp] theorem fresh_int (b) : fresh (.int b) = .pv (.int b) := nr rfl
@[simp] theorem fresh_tup (b) : fresh (.tup b) = .pv (.tup b) := nr rfl
@[simp] theorem fresh_lst (b) : fresh (.lst b) = .new (.lst b) := nr rfl
@[simp] theorem trOk_bl (b) : trOk (.bl b) = true := nr rfl
@[simp] theorem trOk_int (b) : trOk (.int b) = true := nr rfl
@[simp] theorem trOk_tup (b) : trOk (.tup b) = true := nr rfl
@[simp] theorem truthy_bl (b) : truthy (.bl b) = b := nr rfl
@[simp] theorem truthy_int (b) : truthy (.int b) = (b != 0) := nr rfl
@[simp] theorem truthy_tup (b) : truthy (.tup b) = !b.isEmpty := nr rfl

@[simp] theorem op1_neg (i) : op1 .neg (.int i) = some (.int (-i)) := nr rfl
@[simp] theorem op1_abs (i) : op1 .abs (.int i) = some (.int (if i < 0 then -i else i)) := nr rfl
@[simp] theorem op1_not (b) : op1 .not (.bl b) = some (.bl (!b)) := nr rfl
@[simp] theorem op1_len_tup (xs) : op1 .len (.tup xs) = some (.int xs.length) := nr rfl
@[simp] theorem op1_len_lst (xs) : op1 .len (.lst xs) = some (.int xs.length) := nr rfl
@[simp] theorem op1_len_scr (xs) : op1 .len (.scr xs) = some (.int xs.length) := by show some (PV.int _) = _; simp
@[simp] theorem op1_tuple_tup (xs) : op1 .tuple (.tup xs) = some (.tup xs) := nr rfl
@[simp] theorem op1_tuple_lst (xs) : op1 .tuple (.lst xs) = some (.tup xs) := nr rfl
@[simp] theorem op1_list_tup (xs) : op1 .list (.tup xs) = some (.lst xs) := nr rfl
@[simp] theorem op1_list_lst (xs) : op1 .list (.lst xs) = some (.lst xs) := nr rfl
@[simp] theorem op1_int (i) : op1 .int (.int i) = some (.int i) := nr rfl
@[simp] theorem op1_int_bl (b) : op1 .int (.bl b) = some (.int (if b then 1 else 0)) := nr rfl
theorem intsOf_map : ∀ w : List Int, intsOf (w.map .int) = some w
  | [] => rfl
  | x :: w => by
    show (intsOf (w.map .int)).map (x :: ·) = _
    rw [intsOf_map w]; rfl
@[simp] theorem op1_sum (w : List Int) : op1 .sum (.lst (w.map .int)) = some (.int w.sum) := by
  show (intsOf (w.map .int)).map _ = _
  rw [intsOf_map]; rfl
@[simp] theorem op1_max (w : List Int) : op1 .max (.lst (w.map .int)) = (maxI w).map .int := by
  show (intsOf (w.map .int)).bind _ = _
  rw [intsOf_map]; rfl
@[simp] theorem op1_min (w : List Int) : op1 .min (.lst (w.map .int)) = (minI w).map .int := by
  show (intsOf (w.map .int)).bind _ = _
  rw [intsOf_map]; rfl
@[simp] theorem isi_tup (t xs) : op1 (.isi t) (.tup xs) = some (.bl (t == .tuple)) := by cases t <;> rfl
@[simp] theorem isi_int (t xs) : op1 (.isi t) (.int xs) = some (.bl (t == .int)) := by cases t <;> rfl
@[simp] theorem isNon_tup (xs) : op1 .isNon (.tup xs) = some (.bl false) := nr rfl
@[simp] theorem isNon_int (xs) : op1 .isNon (.int xs) = some (.bl false) := nr rfl

@[simp] theorem op2_add_int (i j) : op2 .add (.int i) (.int j) = some (.int (i + j)) := nr rfl
@[simp] theorem op2_add_tup (xs ys) (h : xs.length + ys.length ≤ 16777216) : op2 .add (.tup xs) (.tup ys) = some (.tup (xs ++ ys)) := by
  show (if xs.length + ys.length ≤ line then _ else _) = _
  exact if_pos h
@[simp] theorem op2_add_lst (xs ys) (h : xs.length + ys.length ≤ 16777216) : op2 .add (.lst xs) (.lst ys) = some (.lst (xs ++ ys)) := by
  show (if xs.length + ys.length ≤ line then _ else _) = _
  exact if_pos h
@[simp] theorem op2_sub (i j) : op2 .sub (.int i) (.int j) = some (.int (i - j)) := nr rfl
theorem op2_mul_int (i j) (h : (big i || big j) = true) : op2 .mul (.int i) (.int j) = some (.int (i * j)) := by
  show (if _ then _ else _) = _
  rw [if_pos h]
@[simp] theorem op2_fmod (i j : Int) (h : j ≠ 0) : op2 .fmod (.int i) (.int j) = some (.int (i.fmod j)) := by
  show (if j ≠ 0 then _ else _) = _
  rw [if_pos h]
@[simp] theorem op2_eq_int (i j) : op2 .eq (.int i) (.int j) = some (.bl (i == j)) := nr rfl
@[simp] theorem op2_ne_int (i j) : op2 .ne (.int i) (.int j) = some (.bl (!(i == j))) := nr rfl
@[simp] theorem op2_lt_int (i j) : op2 .lt (.int i) (.int j) = some (.bl (decide (i < j))) := nr rfl
@[simp] theorem op2_le_int (i j) : op2 .le (.int i) (.int j) = some (.bl (decide (i ≤ j))) := nr rfl
@[simp] theorem op2_gt_int (i j) : op2 .gt (.int i) (.int j) = some (.bl (decide (j < i))) := nr rfl
@[simp] theorem op2_ge_int (i j) : op2 .ge (.int i) (.int j) = some (.bl (decide (j ≤ i))) := nr rfl
@[simp] theorem op2_lt_w (a b : List Int) : op2 .lt (.tup (a.map .int)) (.tup (b.map .int)) = some (.bl (lexLt a b)) := by
  show ((intsOf (a.map .int)).bind fun x => (intsOf (b.map .int)).bind fun y => _) = _
  rw [intsOf_map, intsOf_map]; rfl
@[simp] theorem op2_le_w (a b : List Int) : op2 .le (.tup (a.map .int)) (.tup (b.map .int)) = some (.bl (lexLe a b)) := by
  show ((intsOf (a.map .int)).bind fun x => (intsOf (b.map .int)).bind fun y => _) = _
  rw [intsOf_map, intsOf_map]; rfl
@[simp] theorem op2_idx_tup (xs i) : op2 .idx (.tup xs) (.int i) = ixAt xs i := nr rfl
@[simp] theorem op2_idx_lst (xs i) : op2 .idx (.lst xs) (.int i) = ixAt xs i := nr rfl
@[simp] theorem op2_min (i j : Int) : op2 .min (.int i) (.int j) = some (.int (min i j)) := by
  show some (PV.int _) = _
  congr 2; omega
@[simp] theorem op2_max (i j : Int) : op2 .max (.int i) (.int j) = some (.int (max i j)) := by
  show some (PV.int _) = _
  congr 2; omega
@[simp] theorem opSl_tup (xs lo hi) : opSl (.tup xs) lo hi = some (.tup (cut xs lo hi)) := nr rfl
@[simp] theorem opSl_lst (xs lo hi) : opSl (.lst xs) lo hi = some (.lst (cut xs lo hi)) := nr rfl

theorem ixAt_pos {α : Type} (xs : List α) (i : Int) (h : 0 ≤ i) : ixAt xs i = xs[i.toNat]? := by
  unfold ixAt; rw [if_pos h]
@[simp] theorem ixAt_nat {α : Type} (xs : List α) (i : Nat) : ixAt xs (i : Int) = xs[i]? := by
  rw [ixAt_pos _ _ (by omega)]; rfl
@[simp] theorem ixAt_0 {α : Type} (xs : List α) : ixAt xs 0 = xs[0]? := ixAt_nat xs 0
@[simp] theorem ixAt_2 {α : Type} (xs : List α) : ixAt xs 2 = xs[2]? := ixAt_nat xs 2
@[simp] theorem ixAt_3 {α : Type} (xs : List α) : ixAt xs 3 = xs[3]? := ixAt_nat xs 3
@[simp] theorem ixAt_4 {α : Type} (xs : List α) : ixAt xs 4 = xs[4]? := ixAt_nat xs 4
@[simp] theorem ixAt_5 {α : Type} (xs : List α) : ixAt xs 5 = xs[5]? := ixAt_nat xs 5
@[simp] theorem ixAt_6 {α : Type} (xs : List α) : ixAt xs 6 = xs[6]? := ixAt_nat xs 6
@[simp] theorem ixAt_7 {α : Type} (xs : List α) : ixAt xs 7 = xs[7]? := ixAt_nat xs 7
@[simp] theorem ixAt_1 {α : Type} (xs : List α) : ixAt xs 1 = xs[1]? := ixAt_nat xs 1
@[simp] theorem ixAt_last {α : Type} (xs : List α) : ixAt xs (-1) = xs.getLast? := by
  unfold ixAt
  rw [if_neg (by omega)]
  cases xs with
  | nil => rfl
  | cons x xs =>
    rw [if_pos (by simp; omega), List.getLast?_eq_getElem?]
    congr 1; simp; omega
theorem cut_map {α β : Type} (f : α → β) (xs : List α) (lo hi) : cut (xs.map f) lo hi = (cut xs lo hi).map f := by
  unfold cut; simp [List.map_drop, List.map_take]
theorem tk_map {α β : Type} (f : α → β) (xs : List α) (n) : (xs.map f).take n = (xs.take n).map f := List.map_take.symm
theorem dr_map {α β : Type} (f : α → β) (xs : List α) (n) : (xs.map f).drop n = (xs.drop n).map f := List.map_drop.symm
theorem cut_to {α : Type} (xs : List α) (i : Int) (h : 0 ≤ i) : cut xs none (some i) = xs.take i.toNat := by
  have : ¬ i < 0 := by omega
  simp [cut, sIx, this, List.take_eq_take_iff]
theorem cut_from {α : Type} (xs : List α) (i : Int) (h : 0 ≤ i) : cut xs (some i) none = xs.drop i.toNat := by
  have : ¬ i < 0 := by omega
  have e : cut xs (some i) none = (xs.drop (min i.toNat xs.length)).take (xs.length - min i.toNat xs.length) := by
    simp [cut, sIx, this]
  rw [e, List.take_of_length_le (by simp)]
  rcases Nat.le_total i.toNat xs.length with g | g
  · rw [Nat.min_eq_left g]
  · rw [Nat.min_eq_right g, List.drop_of_length_le (Nat.le_refl _), List.drop_of_length_le g]
theorem cut_mid {α : Type} (xs : List α) (i j : Int) (h : 0 ≤ i) (hj : 0 ≤ j) : cut xs (some i) (some j) = (xs.drop i.toNat).take (j.toNat - i.toNat) := by
  have h1 : ¬ i < 0 := by omega
  have h2 : ¬ j < 0 := by omega
  have e : cut xs (some i) (some j) = (xs.drop (min i.toNat xs.length)).take (min j.toNat xs.length - min i.toNat xs.length) := by
    simp [cut, sIx, h1, h2]
  rw [e]
  rcases Nat.le_total i.toNat xs.length with g | g
  · rw [Nat.min_eq_left g, List.take_eq_take_iff]; simp; omega
  · rw [Nat.min_eq_right g, List.drop_of_length_le (Nat.le_refl _), List.drop_of_length_le g]; simp
theorem cut_init {α : Type} (xs : List α) : cut xs none (some (-1)) = xs.dropLast := by
  have e : cut xs none (some (-1)) = xs.take ((-1 + (xs.length : Int)).toNat) := by simp [cut, sIx]
  rw [e, List.dropLast_eq_take]; congr 1; omega
@[simp ↓, simp] theorem if_line {α : Type} (n : Nat) (a b : α) [Decidable (n ≤ line)] (h : n ≤ 16777216) : (if n ≤ line then a else b) = a := if_pos h
@[simp ↓, simp] theorem if_line' {α : Type} (n : Nat) (a b : α) [Decidable (n < line)] (h : n < 16777216) : (if n < line then a else b) = a := if_pos h
@[simp] theorem opRng_1 (j : Int) (h : -4611686018427387904 ≤ j ∧ j < 4611686018427387904) : opRng [.int j] = .ok ((rangeI 0 j).map .int) := by
  simp [opRng, okR, h]
@[simp] theorem opRng_2 (i j : Int) (h : (-4611686018427387904 ≤ i ∧ i < 4611686018427387904) ∧ -4611686018427387904 ≤ j ∧ j < 4611686018427387904) : opRng [.int i, .int j] = .ok ((rangeI i j).map .int) := by
  simp [opRng, okR, h]
theorem rangeI_nat (a b : Nat) : rangeI a b = (List.range' a (b - a)).map fun (n : Nat) => (n : Int) := by
  unfold rangeI
  rw [List.range'_eq_map_range, List.map_map, show ((b : Int) - a).toNat = b - a by omega]
  apply List.map_congr_left
  intro x _
  simp
theorem loopC_pure {f : PV → Sto → Out (Option PV × Sto)} {α : Type} (e : α → PV) (g : α → Option PV) {all : List PV} {S : Sto} : ∀ (xs : List α), (∀ a ∈ xs, f (e a) S = .ok (g a, S)) → loopC f none all (xs.map e) S = .ok (xs.filterMap g, S)
  | [], _ => by simp [loopC]
  | a :: xs, h => by
    have ih := loopC_pure (all := all) (S := S) e g xs (fun b hb => h b (by simp [hb]))
    show loopC f none all (e a :: xs.map e) S = _
    unfold loopC
    rw [if_pos (by simp), h a (by simp)]
    simp only [ok_bind, ih]
    cases hg : g a <;> simp [hg]
theorem loopC_all {f : PV → Sto → Out (Option PV × Sto)} {α : Type} (e : α → PV) (g : α → PV) {all : List PV} {S : Sto} (xs : List α) (h : ∀ a ∈ xs, f (e a) S = .ok (some (g a), S)) : loopC f none all (xs.map e) S = .ok (xs.map g, S) := by
  rw [loopC_pure e (fun a => some (g a)) xs h]
  simp
theorem loopC_flt {f : PV → Sto → Out (Option PV × Sto)} {α : Type} (e : α → PV) (q : α → Bool) (g : α → PV) {all : List PV} {S : Sto} (xs : List α) (h : ∀ a ∈ xs, f (e a) S = .ok (if q a then some (g a) else none, S)) : loopC f none all (xs.map e) S = .ok ((xs.filter q).map g, S) := by
  rw [loopC_pure e (fun a => if q a then some (g a) else none) xs h]
  congr 2
  clear h
  induction xs with
  | nil => rfl
  | cons a xs ih =>
    by_cases hq : q a = true
    · simp [hq, ih]
    · simp [hq, ih]
/-- a for that keeps a promise from turn to turn -/
theorem loopF_inv {f : PV → Env → Sto → Out (Flow × Env × Sto)} {α : Type} (e : α → PV) {all : List PV} (P : List α → Env → Sto → Prop)
    (step : ∀ a r ρ S, P (a :: r) ρ S → ∃ ρ' S', f (e a) ρ S = .ok (.nx, ρ', S') ∧ P r ρ' S') :
    ∀ (xs : List α) ρ S, P xs ρ S → ∃ ρ' S', loopF f none all (xs.map e) ρ S = .ok (.nx, ρ', S') ∧ P [] ρ' S'
  | [], ρ, S, h => ⟨ρ, S, by simp [loopF], h⟩
  | a :: xs, ρ, S, h => by
    obtain ⟨ρ1, S1, h1, h2⟩ := step a xs ρ S h
    obtain ⟨ρ2, S2, h3, h4⟩ := loopF_inv (all := all) e P step xs ρ1 S1 h2
    refine ⟨ρ2, S2, ?_, h4⟩
    show loopF f none all (e a :: xs.map e) ρ S = _
    unfold loopF
    rw [if_pos (by simp), h1]
    simp only [ok_bind, h3]
theorem loopF_iv {f : PV → Env → Sto → Out (Flow × Env × Sto)} {α : Type} (e : α → PV) {all : List PV} (P : List α → Env → Sto → Prop)
    (step : ∀ a r ρ S, P (a :: r) ρ S → ∃ ρ' S', f (e a) ρ S = .ok (.nx, ρ', S') ∧ P r ρ' S') (xs : List α) (ρ S) (h : P xs ρ S) :
    ∃ r, loopF f none all (xs.map e) ρ S = .ok r ∧ ∃ ρ' S', r = (.nx, ρ', S') ∧ P [] ρ' S' := by
  obtain ⟨ρ', S', h1, h2⟩ := loopF_inv (all := all) e P step xs ρ S h
  exact ⟨_, h1, ρ', S', rfl, h2⟩
/-- a for whose turns tell the next names outright -/
theorem loopF_foldS {f : PV → Env → Sto → Out (Flow × Env × Sto)} {α β : Type} (e : α → PV) {all : List PV} (ss : β → Sto) (st : β → Env) (g : β → α → β) (ok : List α → β → Prop)
    (step : ∀ a r b, ok (a :: r) b → f (e a) (st b) (ss b) = .ok (.nx, st (g b a), ss (g b a)) ∧ ok r (g b a)) :
    ∀ (xs : List α) b, ok xs b → loopF f none all (xs.map e) (st b) (ss b) = .ok (.nx, st (xs.foldl g b), ss (xs.foldl g b))
  | [], b, _ => by simp [loopF]
  | a :: xs, b, h => by
    obtain ⟨h1, h2⟩ := step a xs b h
    show loopF f none all (e a :: xs.map e) (st b) (ss b) = _
    unfold loopF
    rw [if_pos (by simp), h1]
    simp only [ok_bind]
    exact loopF_foldS e ss st g ok step xs (g b a) h2
theorem loopF_fold {f : PV → Env → Sto → Out (Flow × Env × Sto)} {α β : Type} (e : α → PV) {all : List PV} {S : Sto} (st : β → Env) (g : β → α → β) (ok : List α → β → Prop)
    (step : ∀ a r b, ok (a :: r) b → f (e a) (st b) S = .ok (.nx, st (g b a), S) ∧ ok r (g b a)) :
    ∀ (xs : List α) b, ok xs b → loopF f none all (xs.map e) (st b) S = .ok (.nx, st (xs.foldl g b), S) :=
  loopF_foldS e (fun _ => S) st g ok step
theorem loopW_inl {f : Turn} {s s' : Env × Sto} (h : f s = .ok (.inl s')) : loopW f s = loopW f s' := by rw [loopW_eq, h]
theorem loopW_inr {f : Turn} {s : Env × Sto} {r} (h : f s = .ok (.inr r)) : loopW f s = .ok r := by rw [loopW_eq, h]
theorem loopW_ind {f : Turn} {α : Type} (st : α → Env × Sto) (P : α → Prop) (μ : α → Nat) (Q : α → Flow × Env × Sto → Prop)
    (step : ∀ a, P a → (∃ b, f (st a) = .ok (.inl (st b)) ∧ P b ∧ μ b < μ a ∧ (∀ r, Q b r → Q a r)) ∨ (∃ r, f (st a) = .ok (.inr r) ∧ Q a r)) :
    ∀ a, P a → ∃ r, loopW f (st a) = .ok r ∧ Q a r := by
  intro a
  induction h : μ a using Nat.strongRecOn generalizing a with
  | ind n ih =>
    intro hP
    rcases step a hP with ⟨b, h1, h2, h3, h4⟩ | ⟨r, h1, h2⟩
    · obtain ⟨r, g1, g2⟩ := ih (μ b) (by omega) b rfl h2
      exact ⟨r, by rw [loopW_inl h1, g1], h4 r g2⟩
    · exact ⟨r, loopW_inr h1, h2⟩
theorem bnd_ex {α β : Type} {x : Out α} {Q : α → Prop} {f : α → Out β} {r} (h : ∃ a, x = .ok a ∧ Q a) (h2 : ∀ a, Q a → f a = r) : @bnd α β x ⟨f⟩ = r := by
  obtain ⟨a, h3, h4⟩ := h
  rw [h3]; exact h2 a h4
theorem bnd_exx {α β : Type} {x : Out α} {Q : α → Prop} {f : α → Out β} {R : β → Prop} (h : ∃ a, x = .ok a ∧ Q a) (h2 : ∀ a, Q a → ∃ b, f a = .ok b ∧ R b) : ∃ b, @bnd α β x ⟨f⟩ = .ok b ∧ R b := by
  obtain ⟨a, h3, h4⟩ := h
  rw [h3]; exact h2 a h4
@[simp] theorem mut_append_last (S xs p) (h : xs.length < 16777216) : mutOp (S ++ [.lst xs]) .append (.loc S.length) [p] = .ok (.pv .non, S ++ [.lst (xs ++ [p])]) := by
  unfold mutOp
  simp [line, h]
@[simp] theorem rd_last (S c) : rd (S ++ [c]) (.loc S.length) = .ok c.pv := by
  unfold rd
  simp
@[simp] theorem take_last (S : Sto) (c : Cell) : (S ++ [c]).take S.length = S := by simp
theorem ofNat_range (a b : Nat) : (rangeI a b).map PV.int = (List.range' a (b - a)).map fun (n : Nat) => PV.int n := by
  rw [rangeI_nat, List.map_map]; rfl
theorem ofNat_range0 (b : Nat) : (rangeI 0 b).map PV.int = (List.range b).map fun (n : Nat) => PV.int n := by
  have := ofNat_range 0 b
  rw [List.range_eq_range']
  exact this
end RS

set_option linter.all false
set_option maxRecDepth 100000
set_option maxHeartbeats 1000000
namespace RS
open PySem (Str)
@[reducible] def eW (w : W) : PV := .tup (w.map .int)
@[reducible] def eC (l : List W) : PV := .tup (l.map eW)
@[reducible] def eE (a m : Nat) (x : W) : PV := .tup [.int a, .int m, eW x]
def edP (w : W) (a m : Nat) (x : W) : W := w.take a ++ x ++ w.drop (a + m)

theorem spec_edited (k : Nat) (w x : W) (a m : Nat) (S : Sto) (h : w.length ≤ 1000) (hx : x.length ≤ 1000) :
    callF G (k + 1) 2 [.pv (eW w), .pv (eE a m x)] S = .ok (.pv (eW (edP w a m x)), S) := by
  rw [call_start G_edited]
  simp (disch := first | omega | (simp only [List.length_map, List.length_append, List.length_cons, List.length_nil, List.length_take, List.length_drop, List.length_reverse, List.length_range', List.length_range] <;> omega) | fail) [runFn, cut_map, cut_to, cut_from, cut_mid, -getElem?_pos, -List.map_take, -List.map_drop, -List.length_flatten, -Prod.exists, tk_map, dr_map, List.getElem?_cons_zero, List.getElem?_cons_succ, i_edited, cut_to, cut_from, edP, show ((a : Int) + m).toNat = a + m by omega]

theorem spec_edit_back (k : Nat) (w x : W) (a m : Nat) (S : Sto) :
    callF G (k + 1) 3 [.pv (eW w), .pv (eE a m x)] S = .ok (.pv (eE a x.length ((w.drop a).take m)), S) := by
  rw [call_start G_edit_back]
  simp (disch := first | omega | (simp only [List.length_map, List.length_append, List.length_cons, List.length_nil, List.length_take, List.length_drop, List.length_reverse, List.length_range', List.length_range] <;> omega) | fail) [runFn, cut_map, cut_to, cut_from, cut_mid, -getElem?_pos, -List.map_take, -List.map_drop, -List.length_flatten, -Prod.exists, tk_map, dr_map, List.getElem?_cons_zero, List.getElem?_cons_succ, i_edit_back, cut_mid, show ((a : Int) + m).toNat = a + m by omega, show a + m - a = m by omega]

def endsP : Nat → List W → List Nat
  | _, [] => []
  | s, w :: r => (s + w.length) :: endsP (s + w.length) r
theorem spec_ends (k : Nat) (ws : List W) (S : Sto) (h : ws.length ≤ 1000) :
    callF G (k + 1) 4 [.pv (eC ws)] S = .ok (.pv (.tup ((endsP 0 ws).map fun (n : Nat) => .int n)), S) := by
  rw [call_start G_ends_of_words]
  simp (disch := first | omega | (simp only [List.length_map, List.length_append, List.length_cons, List.length_nil, List.length_take, List.length_drop, List.length_reverse, List.length_range', List.length_range] <;> omega) | fail) [runFn, cut_map, cut_to, cut_from, cut_mid, -getElem?_pos, -List.map_take, -List.map_drop, -List.length_flatten, -Prod.exists, tk_map, dr_map, List.getElem?_cons_zero, List.getElem?_cons_succ, i_ends_of_words]
  refine bnd_of (loopF_fold (e := eW) (β := Option Val × List Nat × Nat)
    (st := fun b => [some (.pv (eC ws)), b.1, some (.pv (.tup (b.2.1.map fun (n : Nat) => .int n))), some (.pv (.int b.2.2))])
    (g := fun b w => (some (.pv (eW w)), b.2.1 ++ [b.2.2 + w.length], b.2.2 + w.length))
    (ok := fun r b => b.2.1.length + r.length ≤ 1000) ?_ ws (none, [], 0) (by simpa using h)) ?_
  · intro w r b hb
    simp only [List.length_cons] at hb
    refine ⟨?_, (by first | omega | (simp only [List.length_map, List.length_append, List.length_cons, List.length_nil, List.length_take, List.length_drop, List.length_reverse, List.length_range', List.length_range] <;> omega))⟩
    simp (disch := first | omega | (simp only [List.length_map, List.length_append, List.length_cons, List.length_nil, List.length_take, List.length_drop, List.length_reverse, List.length_range', List.length_range] <;> omega) | fail) [runFn, cut_map, cut_to, cut_from, cut_mid, -getElem?_pos, -List.map_take, -List.map_drop, -List.length_flatten, -Prod.exists, tk_map, dr_map, List.getElem?_cons_zero, List.getElem?_cons_succ, forBody]
  · have key : ∀ (ws : List W) (b : Option Val × List Nat × Nat), (ws.foldl (fun b w => (some (.pv (eW w)), b.2.1 ++ [b.2.2 + w.length], b.2.2 + w.length)) b).2.1 = b.2.1 ++ endsP b.2.2 ws := by
      intro ws
      induction ws with
      | nil => intro b; simp [endsP]
      | cons w ws ih => intro b; rw [List.foldl_cons, ih]; simp [endsP]
    simp (disch := first | omega | (simp only [List.length_map, List.length_append, List.length_cons, List.length_nil, List.length_take, List.length_drop, List.length_reverse, List.length_range', List.length_range] <;> omega) | fail) [runFn, cut_map, cut_to, cut_from, cut_mid, -getElem?_pos, -List.map_take, -List.map_drop, -List.length_flatten, -Prod.exists, tk_map, dr_map, List.getElem?_cons_zero, List.getElem?_cons_succ, key]
end RS

set_option linter.all false
set_option maxRecDepth 100000
set_option maxHeartbeats 1000000
namespace RS
open PySem (Str)
def stP : Nat → List W → List Nat
  | _, [] => []
  | s, w :: r => s :: stP (s + w.length) r
@[simp] theorem stP_len : ∀ (s : Nat) (ws : List W), (stP s ws).length = ws.length
  | _, [] => rfl
  | s, w :: r => by simp [stP, stP_len]
@[simp] theorem endsP_len : ∀ (s : Nat) (ws : List W), (endsP s ws).length = ws.length
  | _, [] => rfl
  | s, w :: r => by simp [endsP, endsP_len]
def nth (l : List Nat) (k : Nat) : Nat := l.getD k 0
def nthW (l : List W) (k : Nat) : W := l.getD k []
theorem endsP_get : ∀ (s : Nat) (ws : List W) (k : Nat), k < ws.length → (endsP s ws)[k]? = some (nth (stP s ws) k + (nthW ws k).length)
  | _, [], _, h => by simp at h
  | s, w :: r, 0, _ => by simp [endsP, stP, nth, nthW]
  | s, w :: r, k + 1, h => by
    have := endsP_get (s + w.length) r k (by simpa using h)
    simpa [endsP, stP, nth, nthW] using this
theorem get_nthW (l : List W) (k : Nat) (h : k < l.length) : l[k]? = some (nthW l k) := by
  simp [nthW, List.getD, h]
theorem map_getD_drop (l : List Nat) (a : Nat) : (List.range' a (l.length - a)).map (nth l) = l.drop a := by
  apply List.ext_getElem
  · simp
  · intro i h1 h2
    simp at h1 h2
    simp [nth]
    rw [List.getElem?_eq_getElem (by omega)]; simp
def nA (ws : List W) (a : Nat) : Nat := ((endsP 0 ws).filter (fun e => decide (e ≤ a))).length
def nB (ws : List W) (a m : Nat) : Nat := (((stP 0 ws).drop (nA ws a)).filter (fun s => decide (a + m ≤ s))).length
theorem nA_le (ws : List W) (a : Nat) : nA ws a ≤ ws.length := by
  have := List.length_filter_le (fun e => decide (e ≤ a)) (endsP 0 ws)
  simpa [nA] using this
theorem nB_le (ws : List W) (a m : Nat) : nB ws a m + nA ws a ≤ ws.length := by
  have := List.length_filter_le (fun s => decide (a + m ≤ s)) ((stP 0 ws).drop (nA ws a))
  simp at this
  have h2 := nA_le ws a
  unfold nB; omega

theorem spec_words_kept (k : Nat) (ws : List W) (x : W) (a m : Nat) (S : Sto) (h : ws.length ≤ 1000) :
    callF G (k + 2) 5 [.pv (eC ws), .pv (eE a m x)] S = .ok (.pv (.tup [.int (nA ws a), .int (nB ws a m)]), S) := by
  have hA := nA_le ws a
  rw [call_start G_words_kept]
  simp (disch := first | omega | (simp only [List.length_map, List.length_append, List.length_cons, List.length_nil, List.length_take, List.length_drop, List.length_reverse, List.length_range', List.length_range] <;> omega) | fail) [runFn, cut_map, cut_to, cut_from, cut_mid, -getElem?_pos, -List.map_take, -List.map_drop, -List.length_flatten, -Prod.exists, tk_map, dr_map, List.getElem?_cons_zero, List.getElem?_cons_succ, i_words_kept, spec_ends, h]
  refine bnd_of (loopC_flt (e := fun (n : Nat) => .int n) (q := fun n => decide (n ≤ a)) (g := fun (n : Nat) => .int n) (endsP 0 ws) ?_) ?_
  · intro n _
    by_cases hn : n ≤ a
    · simp (disch := first | omega | (simp only [List.length_map, List.length_append, List.length_cons, List.length_nil, List.length_take, List.length_drop, List.length_reverse, List.length_range', List.length_range] <;> omega) | fail) [runFn, cut_map, cut_to, cut_from, cut_mid, -getElem?_pos, -List.map_take, -List.map_drop, -List.length_flatten, -Prod.exists, tk_map, dr_map, List.getElem?_cons_zero, List.getElem?_cons_succ, compBody, hn, show (n : Int) ≤ a by omega]
    · simp (disch := first | omega | (simp only [List.length_map, List.length_append, List.length_cons, List.length_nil, List.length_take, List.length_drop, List.length_reverse, List.length_range', List.length_range] <;> omega) | fail) [runFn, cut_map, cut_to, cut_from, cut_mid, -getElem?_pos, -List.map_take, -List.map_drop, -List.length_flatten, -Prod.exists, tk_map, dr_map, List.getElem?_cons_zero, List.getElem?_cons_succ, compBody, hn, show ¬ (n : Int) ≤ a by omega]
  have hl : ((endsP 0 ws).filter (fun e => decide (e ≤ a))).length = nA ws a := rfl
  simp (disch := first | omega | (simp only [List.length_map, List.length_append, List.length_cons, List.length_nil, List.length_take, List.length_drop, List.length_reverse, List.length_range', List.length_range] <;> omega) | fail) [runFn, cut_map, cut_to, cut_from, cut_mid, -getElem?_pos, -List.map_take, -List.map_drop, -List.length_flatten, -Prod.exists, tk_map, dr_map, List.getElem?_cons_zero, List.getElem?_cons_succ, hl, ofNat_range]
  refine bnd_of (loopC_all (e := fun (n : Nat) => .int n) (g := fun n => .int (nth (stP 0 ws) n : Nat)) _ ?_) ?_
  · intro n hn
    have hn2 : n < ws.length := by rw [List.mem_range'_1] at hn; omega
    simp (disch := first | omega | (simp only [List.length_map, List.length_append, List.length_cons, List.length_nil, List.length_take, List.length_drop, List.length_reverse, List.length_range', List.length_range] <;> omega) | fail) [runFn, cut_map, cut_to, cut_from, cut_mid, -getElem?_pos, -List.map_take, -List.map_drop, -List.length_flatten, -Prod.exists, tk_map, dr_map, List.getElem?_cons_zero, List.getElem?_cons_succ, compBody, endsP_get 0 ws n hn2, get_nthW ws n hn2]
  simp (disch := first | omega | (simp only [List.length_map, List.length_append, List.length_cons, List.length_nil, List.length_take, List.length_drop, List.length_reverse, List.length_range', List.length_range] <;> omega) | fail) [runFn, cut_map, cut_to, cut_from, cut_mid, -getElem?_pos, -List.map_take, -List.map_drop, -List.length_flatten, -Prod.exists, tk_map, dr_map, List.getElem?_cons_zero, List.getElem?_cons_succ]
  rw [show (List.map (fun n => PV.int ((nth (stP 0 ws) n : Nat) : Int)) (List.range' (nA ws a) (ws.length - nA ws a))) = List.map (fun n : Nat => .int n) ((stP 0 ws).drop (nA ws a)) by
    rw [← map_getD_drop, List.map_map]; simp]
  refine bnd_of (loopC_flt (e := fun (n : Nat) => .int n) (q := fun n => decide (a + m ≤ n)) (g := fun (n : Nat) => .int n) _ ?_) ?_
  · intro n _
    by_cases hn : a + m ≤ n
    · simp (disch := first | omega | (simp only [List.length_map, List.length_append, List.length_cons, List.length_nil, List.length_take, List.length_drop, List.length_reverse, List.length_range', List.length_range] <;> omega) | fail) [runFn, cut_map, cut_to, cut_from, cut_mid, -getElem?_pos, -List.map_take, -List.map_drop, -List.length_flatten, -Prod.exists, tk_map, dr_map, List.getElem?_cons_zero, List.getElem?_cons_succ, compBody, hn, show (a : Int) + m ≤ n by omega]
    · simp (disch := first | omega | (simp only [List.length_map, List.length_append, List.length_cons, List.length_nil, List.length_take, List.length_drop, List.length_reverse, List.length_range', List.length_range] <;> omega) | fail) [runFn, cut_map, cut_to, cut_from, cut_mid, -getElem?_pos, -List.map_take, -List.map_drop, -List.length_flatten, -Prod.exists, tk_map, dr_map, List.getElem?_cons_zero, List.getElem?_cons_succ, compBody, hn, show ¬ (a : Int) + m ≤ n by omega]
  have hB := nB_le ws a m
  have hl : (((stP 0 ws).drop (nA ws a)).filter (fun s => decide (a + m ≤ s))).length = nB ws a m := rfl
  simp (disch := first | omega | (simp only [List.length_map, List.length_append, List.length_cons, List.length_nil, List.length_take, List.length_drop, List.length_reverse, List.length_range', List.length_range] <;> omega) | fail) [runFn, cut_map, cut_to, cut_from, cut_mid, -getElem?_pos, -List.map_take, -List.map_drop, -List.length_flatten, -Prod.exists, tk_map, dr_map, List.getElem?_cons_zero, List.getElem?_cons_succ, hl]
end RS

set_option linter.all false
set_option maxRecDepth 100000
set_option maxHeartbeats 1000000
namespace RS
open PySem (Str)
theorem sum_len : ∀ A : List W, (A.map fun w => (w.length : Int)).sum = (A.flatten.length : Nat)
  | [] => rfl
  | w :: A => by
    have := sum_len A
    rw [List.map_cons, List.sum_cons, this]; simp
theorem op1_sum_len (A : List W) : op1 .sum (.lst (A.map fun w => .int (w.length : Nat))) = some (.int (A.flatten.length : Nat)) := by
  have := op1_sum (A.map fun w => (w.length : Int))
  rw [sum_len, List.map_map] at this
  exact this
theorem flat_take_le (ws : List W) (n : Nat) : (ws.take n).flatten.length ≤ ws.flatten.length := by
  conv => rhs; rw [← List.take_append_drop n ws]
  rw [List.flatten_append, List.length_append]; omega
theorem flat_drop_le (ws : List W) (n : Nat) : (ws.drop n).flatten.length ≤ ws.flatten.length := by
  conv => rhs; rw [← List.take_append_drop n ws]
  rw [List.flatten_append, List.length_append]; omega
theorem fold_join (st : List W) : ∀ (b : Option Val × W), (st.foldl (fun b w => (some (Val.pv (eW w)), b.2 ++ w)) b).2 = b.2 ++ st.flatten := by
  induction st with
  | nil => intro b; simp
  | cons w r ih => intro b; rw [List.foldl_cons, ih]; simp
def pcs (ws : List W) (a m : Nat) (x : W) : List W :=
  ws.take (nA ws a) ++ (edP ((ws.drop (nA ws a)).take (ws.length - nB ws a m - nA ws a)).flatten (a - (ws.take (nA ws a)).flatten.length) m x).map (fun x => [x]) ++ ws.drop (ws.length - nB ws a m)
theorem edP_len (w : W) (a m : Nat) (x : W) : (edP w a m x).length ≤ w.length + x.length := by
  unfold edP; simp; omega

theorem spec_pieces (k : Nat) (ws : List W) (x : W) (a m : Nat) (S : Sto) (h : ws.length ≤ 1000) (hf : ws.flatten.length ≤ 1000) (hx : x.length ≤ 1000)
    (ha : (ws.take (nA ws a)).flatten.length ≤ a) :
    callF G (k + 3) 6 [.pv (eC ws), .pv (eE a m x)] S = .ok (.pv (eC (pcs ws a m x)), S) := by
  have hA := nA_le ws a
  have hB := nB_le ws a m
  have hM : ((ws.drop (nA ws a)).take (ws.length - nB ws a m - nA ws a)).flatten.length ≤ 1000 := Nat.le_trans (flat_take_le _ _) (Nat.le_trans (flat_drop_le _ _) hf)
  have hE := edP_len ((ws.drop (nA ws a)).take (ws.length - nB ws a m - nA ws a)).flatten (a - (ws.take (nA ws a)).flatten.length) m x
  rw [call_start G_pieces_of]
  simp (disch := first | omega | (simp only [List.length_map, List.length_append, List.length_cons, List.length_nil, List.length_take, List.length_drop, List.length_reverse, List.length_range', List.length_range] <;> omega) | fail) [runFn, cut_map, cut_to, cut_from, cut_mid, -getElem?_pos, -List.map_take, -List.map_drop, -List.length_flatten, -Prod.exists, tk_map, dr_map, List.getElem?_cons_zero, List.getElem?_cons_succ, i_pieces_of, spec_words_kept, h, cut_mid]
  refine bnd_of (loopF_fold (e := eW) (β := Option Val × W)
    (st := fun b => [some (.pv (eC ws)), some (.pv (eE a m x)), some (.pv (.int (ws.length - nB ws a m))), some (.pv (eW b.2)), b.1, none, none, some (.pv (.int (nA ws a))), some (.pv (.int (nB ws a m))), none])
    (g := fun b w => (some (.pv (eW w)), b.2 ++ w))
    (ok := fun r b => b.2.length + r.flatten.length ≤ 1000) ?_ _ (none, []) (by simp only [List.length_nil, Nat.zero_add]; exact hM)) ?_
  · intro w r b hb
    rw [List.flatten_cons, List.length_append] at hb
    refine ⟨?_, (by first | omega | (simp only [List.length_map, List.length_append, List.length_cons, List.length_nil, List.length_take, List.length_drop, List.length_reverse, List.length_range', List.length_range] <;> omega))⟩
    simp (disch := first | omega | (simp only [List.length_map, List.length_append, List.length_cons, List.length_nil, List.length_take, List.length_drop, List.length_reverse, List.length_range', List.length_range] <;> omega) | fail) [runFn, cut_map, cut_to, cut_from, cut_mid, -getElem?_pos, -List.map_take, -List.map_drop, -List.length_flatten, -Prod.exists, tk_map, dr_map, List.getElem?_cons_zero, List.getElem?_cons_succ, forBody]
  simp (disch := first | omega | (simp only [List.length_map, List.length_append, List.length_cons, List.length_nil, List.length_take, List.length_drop, List.length_reverse, List.length_range', List.length_range] <;> omega) | fail) [runFn, cut_map, cut_to, cut_from, cut_mid, -getElem?_pos, -List.map_take, -List.map_drop, -List.length_flatten, -Prod.exists, tk_map, dr_map, List.getElem?_cons_zero, List.getElem?_cons_succ, fold_join, cut_to]
  refine bnd_of (loopC_all (e := eW) (g := fun w => .int (w.length : Nat)) _ ?_) ?_
  · intro w _
    simp (disch := first | omega | (simp only [List.length_map, List.length_append, List.length_cons, List.length_nil, List.length_take, List.length_drop, List.length_reverse, List.length_range', List.length_range] <;> omega) | fail) [runFn, cut_map, cut_to, cut_from, cut_mid, -getElem?_pos, -List.map_take, -List.map_drop, -List.length_flatten, -Prod.exists, tk_map, dr_map, List.getElem?_cons_zero, List.getElem?_cons_succ, compBody]
  simp (disch := first | omega | (simp only [List.length_map, List.length_append, List.length_cons, List.length_nil, List.length_take, List.length_drop, List.length_reverse, List.length_range', List.length_range] <;> omega) | fail) [runFn, cut_map, cut_to, cut_from, cut_mid, -getElem?_pos, -List.map_take, -List.map_drop, -List.length_flatten, -Prod.exists, tk_map, dr_map, List.getElem?_cons_zero, List.getElem?_cons_succ, op1_sum_len, fold_join]
  rw [show (a : Int) - ((List.take (nA ws a) ws).flatten.length : Nat) = ((a - (List.take (nA ws a) ws).flatten.length : Nat) : Int) by omega]
  rw [spec_edited _ _ _ _ _ _ hM hx]
  simp (disch := first | omega | (simp only [List.length_map, List.length_append, List.length_cons, List.length_nil, List.length_take, List.length_drop, List.length_reverse, List.length_range', List.length_range] <;> omega) | fail) [runFn, cut_map, cut_to, cut_from, cut_mid, -getElem?_pos, -List.map_take, -List.map_drop, -List.length_flatten, -Prod.exists, tk_map, dr_map, List.getElem?_cons_zero, List.getElem?_cons_succ]
  refine bnd_of (loopC_all (e := PV.int) (g := fun x => .tup [.int x]) _ ?_) ?_
  · intro w _
    simp (disch := first | omega | (simp only [List.length_map, List.length_append, List.length_cons, List.length_nil, List.length_take, List.length_drop, List.length_reverse, List.length_range', List.length_range] <;> omega) | fail) [runFn, cut_map, cut_to, cut_from, cut_mid, -getElem?_pos, -List.map_take, -List.map_drop, -List.length_flatten, -Prod.exists, tk_map, dr_map, List.getElem?_cons_zero, List.getElem?_cons_succ, compBody]
  simp (disch := first | omega | (simp only [List.length_map, List.length_append, List.length_cons, List.length_nil, List.length_take, List.length_drop, List.length_reverse, List.length_range', List.length_range] <;> omega) | fail) [runFn, cut_map, cut_to, cut_from, cut_mid, -getElem?_pos, -List.map_take, -List.map_drop, -List.length_flatten, -Prod.exists, tk_map, dr_map, List.getElem?_cons_zero, List.getElem?_cons_succ, pcs, Function.comp_def]
end RS

set_option linter.all false
set_option maxRecDepth 100000
set_option maxHeartbeats 1000000
namespace RS
open PySem (Str)
def pbL : List W → W → List W × W
  | [], w => ([], w)
  | x :: r, w => if lexLt x w then pbL r (x ++ w) else (x :: r, w)
theorem pbL_pbR : ∀ r w, pbR r w = (pbL r w).2 :: (pbL r w).1
  | [], w => rfl
  | x :: r, w => by
    unfold pbR pbL
    by_cases h : lexLt x w = true
    · rw [if_pos h, if_pos h]; exact pbL_pbR r _
    · rw [if_neg h, if_neg h]
theorem pbL_len : ∀ r w, (pbL r w).1.length ≤ r.length
  | [], w => by simp [pbL]
  | x :: r, w => by
    unfold pbL
    by_cases h : lexLt x w = true
    · rw [if_pos h]; have := pbL_len r (x ++ w); simp; omega
    · rw [if_neg h]; simp
theorem spec_put_behind (k : Nat) (ws : List W) (w : W) (S : Sto) (h : ws.length ≤ 1000) (hf : ws.flatten.length + w.length ≤ 1000) :
    callF G (k + 1) 7 [.pv (eC ws), .pv (eW w)] S = .ok (.pv (eC (pb ws w)), S) := by
  obtain ⟨r0, hr⟩ : ∃ r, ws = r.reverse := ⟨ws.reverse, by simp⟩
  subst hr
  rw [call_start G_put_behind]
  simp (disch := first | omega | (simp only [List.length_map, List.length_append, List.length_cons, List.length_nil, List.length_take, List.length_drop, List.length_reverse, List.length_range', List.length_range] <;> omega) | fail) [runFn, cut_map, cut_to, cut_from, cut_mid, -getElem?_pos, -List.map_take, -List.map_drop, -List.length_flatten, -Prod.exists, tk_map, dr_map, List.getElem?_cons_zero, List.getElem?_cons_succ, i_put_behind, -List.map_reverse]
  refine bnd_ex (loopW_ind (α := List W × W) (st := fun a => ([some (.pv (eC a.1.reverse)), some (.pv (eW a.2))], S))
    (P := fun a => a.1.length ≤ 1000 ∧ a.1.reverse.flatten.length + a.2.length ≤ 1000) (μ := fun a => a.1.length)
    (Q := fun a r => r = (.nx, [some (.pv (eC (pbL a.1 a.2).1.reverse)), some (.pv (eW (pbL a.1 a.2).2))], S)) ?_ (r0, w) (by rw [List.length_reverse] at h; exact ⟨h, hf⟩)) ?_
  · rintro ⟨r, w⟩ ⟨h1, h2⟩
    cases r with
    | nil =>
      right
      refine ⟨_, ?_, rfl⟩
      simp (disch := first | omega | (simp only [List.length_map, List.length_append, List.length_cons, List.length_nil, List.length_take, List.length_drop, List.length_reverse, List.length_range', List.length_range] <;> omega) | fail) [runFn, cut_map, cut_to, cut_from, cut_mid, -getElem?_pos, -List.map_take, -List.map_drop, -List.length_flatten, -Prod.exists, tk_map, dr_map, List.getElem?_cons_zero, List.getElem?_cons_succ, whBody, pbL]
    | cons x r =>
      simp only [List.reverse_cons, List.flatten_append, List.length_append, List.flatten_cons, List.flatten_nil, List.append_nil, List.length_cons] at h1 h2
      by_cases hx : lexLt x w = true
      · left
        refine ⟨(r, x ++ w), ?_, ?_, by simp, ?_⟩
        · simp (disch := first | omega | (simp only [List.length_map, List.length_append, List.length_cons, List.length_nil, List.length_take, List.length_drop, List.length_reverse, List.length_range', List.length_range] <;> omega) | fail) [runFn, cut_map, cut_to, cut_from, cut_mid, -getElem?_pos, -List.map_take, -List.map_drop, -List.length_flatten, -Prod.exists, tk_map, dr_map, List.getElem?_cons_zero, List.getElem?_cons_succ, whBody, hx, cut_init]
        · refine ⟨by simp only; omega, ?_⟩
          simp only [List.length_append]; omega
        · intro q hq
          rw [hq]
          simp [pbL, hx]
      · right
        refine ⟨_, ?_, rfl⟩
        simp (disch := first | omega | (simp only [List.length_map, List.length_append, List.length_cons, List.length_nil, List.length_take, List.length_drop, List.length_reverse, List.length_range', List.length_range] <;> omega) | fail) [runFn, cut_map, cut_to, cut_from, cut_mid, -getElem?_pos, -List.map_take, -List.map_drop, -List.length_flatten, -Prod.exists, tk_map, dr_map, List.getElem?_cons_zero, List.getElem?_cons_succ, whBody, pbL, hx]
  · rintro _ rfl
    have := pbL_len r0 w
    simp only [List.length_reverse] at h
    simp (disch := first | omega | (simp only [List.length_map, List.length_append, List.length_cons, List.length_nil, List.length_take, List.length_drop, List.length_reverse, List.length_range', List.length_range] <;> omega) | fail) [runFn, cut_map, cut_to, cut_from, cut_mid, -getElem?_pos, -List.map_take, -List.map_drop, -List.length_flatten, -Prod.exists, tk_map, dr_map, List.getElem?_cons_zero, List.getElem?_cons_succ, pb, pbL_pbR]
theorem spec_fallen (k : Nat) (ws : List W) (S : Sto) (h : ws.length ≤ 1000) (hf : ws.flatten.length ≤ 1000) (hL : ∀ w ∈ ws, Lyn w) :
    callF G (k + 2) 8 [.pv (eC ws)] S = .ok (.pv (eC (fal ws)), S) := by
  rw [call_start G_fallen]
  simp (disch := first | omega | (simp only [List.length_map, List.length_append, List.length_cons, List.length_nil, List.length_take, List.length_drop, List.length_reverse, List.length_range', List.length_range] <;> omega) | fail) [runFn, cut_map, cut_to, cut_from, cut_mid, -getElem?_pos, -List.map_take, -List.map_drop, -List.length_flatten, -Prod.exists, tk_map, dr_map, List.getElem?_cons_zero, List.getElem?_cons_succ, i_fallen]
  have key : ∀ (st : List W) (b : Option Val × List W), (st.foldl (fun b w => (some (Val.pv (eW w)), pb b.2 w)) b).2 = st.foldl pb b.2 := by
    intro st
    induction st with
    | nil => intro b; simp
    | cons w r ih => intro b; rw [List.foldl_cons, ih]; simp
  refine bnd_of (loopF_fold (e := eW) (β := Option Val × List W)
    (st := fun b => [some (.pv (eC ws)), some (.pv (eC b.2)), b.1])
    (g := fun b w => (some (.pv (eW w)), pb b.2 w))
    (ok := fun r b => b.2.flatten.length + r.flatten.length ≤ 1000 ∧ Fal b.2 ∧ ∀ w ∈ r, Lyn w) ?_ _ (none, []) ⟨by simp only [List.flatten_nil, List.length_nil, Nat.zero_add]; exact hf, Fal_nil, hL⟩) ?_
  · rintro w r ⟨v, b⟩ ⟨hb, h2, h3⟩
    rw [List.flatten_cons, List.length_append] at hb
    dsimp only at h2
    have h4 := pb_spec h2 (h3 w (by simp))
    have h5 := Fal_len h2
    have h6 := congrArg List.length h4.2
    rw [List.length_append] at h6
    refine ⟨?_, ?_, h4.1, fun x hx => h3 x (by simp [hx])⟩
    · simp only at hb
      simp (disch := first | omega | (simp only [List.length_map, List.length_append, List.length_cons, List.length_nil, List.length_take, List.length_drop, List.length_reverse, List.length_range', List.length_range] <;> omega) | fail) [runFn, cut_map, cut_to, cut_from, cut_mid, -getElem?_pos, -List.map_take, -List.map_drop, -List.length_flatten, -Prod.exists, tk_map, dr_map, List.getElem?_cons_zero, List.getElem?_cons_succ, forBody, spec_put_behind]
    · simp only at hb ⊢; omega
  simp (disch := first | omega | (simp only [List.length_map, List.length_append, List.length_cons, List.length_nil, List.length_take, List.length_drop, List.length_reverse, List.length_range', List.length_range] <;> omega) | fail) [runFn, cut_map, cut_to, cut_from, cut_mid, -getElem?_pos, -List.map_take, -List.map_drop, -List.length_flatten, -Prod.exists, tk_map, dr_map, List.getElem?_cons_zero, List.getElem?_cons_succ, key, fal]
end RS

set_option linter.all false
set_option maxRecDepth 100000
set_option maxHeartbeats 1000000
namespace RS
open PySem (Str)
/-- where each word begins and ends -/
def pl : Nat → List W → List (Nat × Nat × W)
  | _, [] => []
  | s, w :: r => (s, s + w.length, w) :: pl (s + w.length) r
theorem pl_st : ∀ s ws, (pl s ws).map (fun x => x.1) = stP s ws
  | _, [] => rfl
  | s, w :: r => by simp [pl, stP, pl_st (s + w.length) r]
theorem pl_en : ∀ s ws, (pl s ws).map (fun x => x.2.1) = endsP s ws
  | _, [] => rfl
  | s, w :: r => by simp [pl, endsP, pl_en (s + w.length) r]
theorem pl_w : ∀ s ws, (pl s ws).map (fun x => x.2.2) = ws
  | _, [] => rfl
  | s, w :: r => by simp [pl, pl_w (s + w.length) r]
theorem pl_bd : ∀ s ws, ∀ x ∈ pl s ws, s ≤ x.1 ∧ x.1 ≤ x.2.1
  | _, [], x, h => by simp [pl] at h
  | s, w :: r, x, h => by
    rcases List.mem_cons.mp h with rfl | h
    · simp
    · have := pl_bd (s + w.length) r x h
      omega
abbrev wds (P : List (Nat × Nat × W)) : List W := P.map fun x => x.2.2
theorem pl_split (a b : Nat) (hab : a ≤ b) : ∀ (ws : List W) (s : Nat), ∃ P1 P2 P3, pl s ws = P1 ++ P2 ++ P3 ∧ (∀ x ∈ P1, x.2.1 ≤ a) ∧ (∀ x ∈ P2, a < x.2.1 ∧ x.1 < b) ∧ (∀ x ∈ P3, a < x.2.1 ∧ b ≤ x.1) ∧
    (P1 = [] ∨ s + (wds P1).flatten.length ≤ a) ∧ (P3 = [] ∨ b ≤ s + (wds P1).flatten.length + (wds P2).flatten.length)
  | [], s => ⟨[], [], [], rfl, by simp, by simp, by simp, Or.inl rfl, Or.inl rfl⟩
  | w :: r, s => by
    have hbd := pl_bd (s + w.length) r
    by_cases h1 : s + w.length ≤ a
    · obtain ⟨P1, P2, P3, e, g1, g2, g3, g4, g5⟩ := pl_split a b hab r (s + w.length)
      refine ⟨(s, s + w.length, w) :: P1, P2, P3, by simp [pl, e], ?_, g2, g3, ?_, ?_⟩
      · intro x hx
        rcases List.mem_cons.mp hx with rfl | hx
        · exact h1
        · exact g1 x hx
      · right
        rcases g4 with rfl | g4
        · simpa using h1
        · simp only [wds, List.map_cons, List.flatten_cons, List.length_append] at g4 ⊢; omega
      · rcases g5 with g5 | g5
        · exact Or.inl g5
        · right
          simp only [wds, List.map_cons, List.flatten_cons, List.length_append] at g5 ⊢; omega
    · by_cases h2 : s < b
      · obtain ⟨P1, P2, P3, e, g1, g2, g3, g4, g5⟩ := pl_split a b hab r (s + w.length)
        have e1 : P1 = [] := by
          cases P1 with
          | nil => rfl
          | cons x P1 =>
            have k1 := g1 x (by simp)
            have k2 := hbd x (by rw [e]; simp)
            omega
        subst e1
        refine ⟨[], (s, s + w.length, w) :: P2, P3, by simp [pl, e], by simp, ?_, g3, Or.inl rfl, ?_⟩
        · intro x hx
          rcases List.mem_cons.mp hx with rfl | hx
          · exact ⟨by simp only; omega, h2⟩
          · exact g2 x hx
        · rcases g5 with g5 | g5
          · exact Or.inl g5
          · right
            simp only [wds, List.map_cons, List.flatten_cons, List.length_append, List.map_nil, List.flatten_nil, List.length_nil] at g5 ⊢; omega
      · refine ⟨[], [], pl s (w :: r), rfl, by simp, by simp, ?_, Or.inl rfl, Or.inr (by simp; omega)⟩
        intro x hx
        rcases List.mem_cons.mp hx with rfl | hx
        · exact ⟨by simp only; omega, by simp only; omega⟩
        · have := hbd x hx
          omega
theorem flt_all {α : Type} {p : α → Bool} {l : List α} (h : ∀ x ∈ l, p x = true) : l.filter p = l := List.filter_eq_self.mpr h
theorem flt_none {α : Type} {p : α → Bool} {l : List α} (h : ∀ x ∈ l, p x = false) : l.filter p = [] := by
  rw [List.filter_eq_nil_iff]; intro x hx; simp [h x hx]
/-- the three parts of a cut beside an edit -/
theorem parts (ws : List W) (a m : Nat) (hm : a + m ≤ ws.flatten.length) : ∃ A M B, ws = A ++ M ++ B ∧ nA ws a = A.length ∧ nB ws a m = B.length ∧ A.flatten.length ≤ a ∧ a + m ≤ A.flatten.length + M.flatten.length ∧
    wds ((pl 0 ws).filter fun x => decide (x.2.1 ≤ a)) = A ∧ wds ((pl 0 ws).filter fun x => decide (a < x.2.1) && decide (a + m ≤ x.1)) = B := by
  obtain ⟨P1, P2, P3, e, g1, g2, g3, g4, g5⟩ := pl_split a (a + m) (by omega) ws 0
  have f1 : (pl 0 ws).filter (fun x => decide (x.2.1 ≤ a)) = P1 := by
    rw [e, List.filter_append, List.filter_append, flt_all (l := P1) (by intro x hx; simpa using g1 x hx), flt_none (l := P2) (by intro x hx; have := g2 x hx; simp; omega), flt_none (l := P3) (by intro x hx; have := g3 x hx; simp; omega)]
    simp
  have f2 : (pl 0 ws).filter (fun x => decide (a < x.2.1) && decide (a + m ≤ x.1)) = P3 := by
    rw [e, List.filter_append, List.filter_append, flt_none (l := P1) (by intro x hx; have := g1 x hx; simp; omega), flt_none (l := P2) (by intro x hx; have := g2 x hx; simp; omega), flt_all (l := P3) (by intro x hx; have := g3 x hx; simp; omega)]
    simp
  have hw : ws = wds P1 ++ wds P2 ++ wds P3 := by
    have := pl_w 0 ws
    rw [e] at this
    rw [← this]; simp
  have hA : nA ws a = (wds P1).length := by
    unfold nA
    rw [← pl_en, List.filter_map, List.length_map]
    have : (pl 0 ws).filter ((fun e => decide (e ≤ a)) ∘ fun x => x.2.1) = P1 := f1
    rw [this]; simp
  refine ⟨wds P1, wds P2, wds P3, hw, hA, ?_, ?_, ?_, by rw [f1], by rw [f2]⟩
  · unfold nB
    rw [hA, ← pl_st, e, ← List.map_drop]
    simp only [List.length_map]
    rw [List.append_assoc, List.drop_left, List.filter_map, List.length_map, List.filter_append, flt_none (l := P2) (by intro x hx; have := g2 x hx; simp; omega), flt_all (l := P3) (by intro x hx; have := g3 x hx; simp; omega)]
    simp
  · rcases g4 with rfl | g4
    · simp
    · omega
  · rcases g5 with g5 | g5
    · rw [hw, g5] at hm
      rw [List.flatten_append, List.flatten_append, List.length_append, List.length_append] at hm
      simpa using hm
    · omega
theorem pcs_eq {ws A M B : List W} {a m : Nat} (x : W) (e : ws = A ++ M ++ B) (hA : nA ws a = A.length) (hB : nB ws a m = B.length) :
    pcs ws a m x = A ++ (edP M.flatten (a - A.flatten.length) m x).map (fun x => [x]) ++ B := by
  unfold pcs
  have hl : ws.length - B.length = A.length + M.length := by rw [e]; simp; omega
  have hl2 : ws.length - B.length - A.length = M.length := by omega
  rw [hA, hB, hl2, hl]
  have t1 : ws.take A.length = A := by rw [e, List.append_assoc, List.take_left]
  have t2 : (ws.drop A.length).take M.length = M := by rw [e, List.append_assoc, List.drop_left, List.take_left]
  have t3 : ws.drop (A.length + M.length) = B := by
    rw [e, ← List.length_append, List.drop_left]
  rw [t1, t2, t3]
theorem edP_parts {A M B : W} {a m : Nat} (x : W) (h1 : A.length ≤ a) (h2 : a + m ≤ A.length + M.length) : edP (A ++ M ++ B) a m x = A ++ edP M (a - A.length) m x ++ B := by
  unfold edP
  obtain ⟨c, rfl⟩ : ∃ c, a = A.length + c := ⟨a - A.length, by omega⟩
  rw [show A.length + c - A.length = c by omega]
  rw [List.append_assoc A M B, List.take_length_add_append, Nat.add_assoc, List.drop_length_add_append]
  rw [List.take_append_of_le_length (by omega), List.drop_append_of_le_length (by omega)]
  simp
/-- the mended cut is the cut of the edited word -/
theorem fal_pcs (w : W) (a m : Nat) (x : W) (hm : a + m ≤ w.length) : fal (pcs (lc w) a m x) = lc (edP w a m x) ∧ (∀ p ∈ pcs (lc w) a m x, Lyn p) ∧ (pcs (lc w) a m x).flatten = edP w a m x := by
  obtain ⟨A, M, B, e, h1, h2, h3, h4, _, _⟩ := parts (lc w) a m (by rw [lc_flat]; exact hm)
  have hF := lc_Fal w
  have hp := pcs_eq x e h1 h2
  have hL : ∀ p ∈ pcs (lc w) a m x, Lyn p := by
    intro p hp'
    rw [hp] at hp'
    rcases List.mem_append.mp hp' with hp' | hp'
    · rcases List.mem_append.mp hp' with hp' | hp'
      · exact hF.1 p (by rw [e]; simp [hp'])
      · obtain ⟨y, _, rfl⟩ := List.mem_map.mp hp'
        exact Lyn_one y
    · exact hF.1 p (by rw [e]; simp [hp'])
  have hfl : (pcs (lc w) a m x).flatten = edP w a m x := by
    rw [hp, List.flatten_append, List.flatten_append, flat_ones]
    have hw : w = A.flatten ++ M.flatten ++ B.flatten := by
      have := lc_flat w
      rw [e] at this
      rw [← this]; simp
    conv => rhs; rw [hw]
    rw [edP_parts x h3 h4]
  exact ⟨by rw [fal_lc hL, hfl], hL, hfl⟩
end RS

set_option linter.all false
set_option maxRecDepth 100000
set_option maxHeartbeats 1000000
namespace RS
open PySem (Str)
theorem Lyn_len : ∀ {l : List W}, (∀ p ∈ l, Lyn p) → l.length ≤ l.flatten.length
  | [], _ => by simp
  | a :: r, h => by
    have := Lyn_len (l := r) (fun p hp => h p (by simp [hp]))
    have ha : 0 < a.length := by have := (h a (by simp)).1; cases a <;> simp_all
    rw [List.flatten_cons, List.length_append, List.length_cons]; omega
theorem lc_len (w : W) : (lc w).length ≤ w.length := by
  have := Fal_len (lc_Fal w)
  rwa [lc_flat] at this
theorem nA_flat (w : W) (a m : Nat) (hm : a + m ≤ w.length) : ((lc w).take (nA (lc w) a)).flatten.length ≤ a := by
  obtain ⟨A, M, B, e, h1, h2, h3, h4, _, _⟩ := parts (lc w) a m (by rw [lc_flat]; exact hm)
  rw [h1, e, List.append_assoc, List.take_left]; exact h3
theorem spec_pieces' (k : Nat) (w x : W) (a m : Nat) (S : Sto) (hw : w.length ≤ 100) (hx : x.length ≤ 100) (hm : a + m ≤ w.length) :
    callF G (k + 3) 6 [.pv (eC (lc w)), .pv (eE a m x)] S = .ok (.pv (eC (pcs (lc w) a m x)), S) := by
  have := lc_len w
  exact spec_pieces k (lc w) x a m S (by omega) (by rw [lc_flat]; omega) (by omega) (nA_flat w a m hm)
theorem pcs_len (w x : W) (a m : Nat) (hw : w.length ≤ 100) (hx : x.length ≤ 100) (hm : a + m ≤ w.length) : (pcs (lc w) a m x).length ≤ 200 ∧ (pcs (lc w) a m x).flatten.length ≤ 200 := by
  have h1 := fal_pcs w a m x hm
  have h2 := Lyn_len h1.2.1
  have h3 := edP_len w a m x
  rw [h1.2.2] at h2 ⊢
  omega
theorem spec_mended (k : Nat) (w x : W) (a m : Nat) (S : Sto) (hw : w.length ≤ 100) (hx : x.length ≤ 100) (hm : a + m ≤ w.length) :
    callF G (k + 4) 9 [.pv (eC (lc w)), .pv (eE a m x)] S = .ok (.pv (eC (lc (edP w a m x))), S) := by
  have h1 := fal_pcs w a m x hm
  have h2 := pcs_len w x a m hw hx hm
  rw [call_start G_mended_cut]
  simp (disch := first | omega | (simp only [List.length_map, List.length_append, List.length_cons, List.length_nil, List.length_take, List.length_drop, List.length_reverse, List.length_range', List.length_range] <;> omega) | fail) [runFn, cut_map, cut_to, cut_from, cut_mid, -getElem?_pos, -List.map_take, -List.map_drop, -List.length_flatten, -Prod.exists, tk_map, dr_map, List.getElem?_cons_zero, List.getElem?_cons_succ, i_mended_cut, spec_pieces' _ w x a m S hw hx hm, spec_fallen _ (pcs (lc w) a m x) S (by omega) (by omega) h1.2.1, h1.1]
theorem spec_joins (k : Nat) (w x : W) (a m : Nat) (S : Sto) (hw : w.length ≤ 100) (hx : x.length ≤ 100) (hm : a + m ≤ w.length) :
    callF G (k + 5) 10 [.pv (eC (lc w)), .pv (eE a m x)] S = .ok (.pv (.int ((pcs (lc w) a m x).length - (lc (edP w a m x)).length)), S) := by
  rw [call_start G_joins_of_mending]
  simp (disch := first | omega | (simp only [List.length_map, List.length_append, List.length_cons, List.length_nil, List.length_take, List.length_drop, List.length_reverse, List.length_range', List.length_range] <;> omega) | fail) [runFn, cut_map, cut_to, cut_from, cut_mid, -getElem?_pos, -List.map_take, -List.map_drop, -List.length_flatten, -Prod.exists, tk_map, dr_map, List.getElem?_cons_zero, List.getElem?_cons_succ, i_joins_of_mending, spec_pieces' _ w x a m S hw hx hm, spec_mended _ w x a m S hw hx hm]

/-! ### alike beginnings and ends -/
section
variable {α : Type} [DecidableEq α]
def lcp : List α → List α → Nat
  | x :: a, y :: b => if x = y then lcp a b + 1 else 0
  | _, _ => 0
theorem lcp_le : ∀ a b : List α, lcp a b ≤ a.length ∧ lcp a b ≤ b.length
  | [], _ => by simp [lcp]
  | _ :: _, [] => by simp [lcp]
  | x :: a, y :: b => by
    unfold lcp
    have := lcp_le a b
    split <;> simp <;> omega
theorem lcp_get : ∀ (a b : List α) (i : Nat), i < lcp a b → ∃ x, a[i]? = some x ∧ b[i]? = some x
  | [], _, _, h => by simp [lcp] at h
  | _ :: _, [], _, h => by simp [lcp] at h
  | x :: a, y :: b, i, h => by
    unfold lcp at h
    split at h
    · rename_i e
      cases i with
      | zero => exact ⟨x, by simp, by simp [e]⟩
      | succ i =>
        obtain ⟨z, h1, h2⟩ := lcp_get a b i (by omega)
        exact ⟨z, by simpa using h1, by simpa using h2⟩
    · omega
theorem lcp_stop : ∀ (a b : List α), lcp a b = min a.length b.length ∨ ∃ x y, a[lcp a b]? = some x ∧ b[lcp a b]? = some y ∧ x ≠ y
  | [], _ => by simp [lcp]
  | _ :: _, [] => by simp [lcp]
  | x :: a, y :: b => by
    unfold lcp
    split
    · rename_i e
      rcases lcp_stop a b with h | ⟨p, q, h1, h2, h3⟩
      · left; simp only [List.length_cons]; omega
      · right; exact ⟨p, q, by simpa using h1, by simpa using h2, h3⟩
    · rename_i e
      right; exact ⟨x, y, by simp, by simp, e⟩
theorem lcp_take : ∀ (a b : List α) (k : Nat), k ≤ lcp a b → a.take k = b.take k
  | _, _, 0, _ => by simp
  | [], _, k + 1, h => by simp [lcp] at h
  | _ :: _, [], k + 1, h => by simp [lcp] at h
  | x :: a, y :: b, k + 1, h => by
    unfold lcp at h
    split at h
    · rename_i e
      rw [List.take_succ_cons, List.take_succ_cons, e, lcp_take a b k (by omega)]
    · omega
theorem take_lcp : ∀ (a b : List α) (k : Nat), k ≤ a.length → k ≤ b.length → a.take k = b.take k → k ≤ lcp a b
  | _, _, 0, _, _, _ => by omega
  | [], _, k + 1, h, _, _ => by simp at h
  | _ :: _, [], k + 1, _, h, _ => by simp at h
  | x :: a, y :: b, k + 1, h1, h2, h => by
    rw [List.take_succ_cons, List.take_succ_cons] at h
    injection h with e h
    unfold lcp
    rw [if_pos e]
    have := take_lcp a b k (by simpa using h1) (by simpa using h2) h
    omega
end
def ebC1 : Ex := .and (.op2 .lt (.var 3) (.var 2)) (.op2 .eq (.op2 .idx (.var 0) (.var 3)) (.op2 .idx (.var 1) (.var 3)))
def ebB1 : Blk := .cons (.aug 3 .add (.cst (.int 1))) .nil
def ebC2 : Ex := .and (.op2 .lt (.var 4) (.op2 .sub (.var 2) (.var 3))) (.op2 .eq (.op2 .idx (.var 0) (.op2 .sub (.op2 .sub (.op1 .len (.var 0)) (.cst (.int 1))) (.var 4))) (.op2 .idx (.var 1) (.op2 .sub (.op2 .sub (.op1 .len (.var 1)) (.cst (.int 1))) (.var 4))))
def ebB2 : Blk := .cons (.aug 4 .add (.cst (.int 1))) .nil
/-- == of what is told by e is equality -/
def EqOk {α : Type} [DecidableEq α] (e : α → PV) : Prop := ∀ a b, op2 .eq (e a) (e b) = some (.bl (decide (a = b)))
theorem eb_loop1 {α : Type} [DecidableEq α] (e : α → PV) (he : EqOk e) (cf) (one other : List α) (S : Sto) :
    loopW (whBody cf ebC1 ebB1) ([some (.pv (.tup (one.map e))), some (.pv (.tup (other.map e))), some (.pv (.int (min (one.length : Int) other.length))), some (.pv (.int 0)), none], S) =
    .ok (.nx, [some (.pv (.tup (one.map e))), some (.pv (.tup (other.map e))), some (.pv (.int (min (one.length : Int) other.length))), some (.pv (.int (lcp one other))), none], S) := by
  obtain ⟨r, h1, h2⟩ := loopW_ind (f := whBody cf ebC1 ebB1) (α := Nat)
    (st := fun n => ([some (.pv (.tup (one.map e))), some (.pv (.tup (other.map e))), some (.pv (.int (min (one.length : Int) other.length))), some (.pv (.int n)), none], S))
    (P := fun n => n ≤ lcp one other) (μ := fun n => lcp one other - n)
    (Q := fun _ r => r = (.nx, [some (.pv (.tup (one.map e))), some (.pv (.tup (other.map e))), some (.pv (.int (min (one.length : Int) other.length))), some (.pv (.int (lcp one other))), none], S)) (by
    intro n hn
    have hl := lcp_le one other
    rcases Nat.lt_or_eq_of_le hn with g | g
    · left
      obtain ⟨x, e1, e2⟩ := lcp_get one other n g
      refine ⟨n + 1, ?_, g, by omega, fun _ h => h⟩
      simp (disch := first | omega | (simp only [List.length_map, List.length_append, List.length_cons, List.length_nil, List.length_take, List.length_drop, List.length_reverse, List.length_range', List.length_range] <;> omega) | fail) [runFn, cut_map, cut_to, cut_from, cut_mid, -getElem?_pos, -List.map_take, -List.map_drop, -List.length_flatten, -Prod.exists, tk_map, dr_map, List.getElem?_cons_zero, List.getElem?_cons_succ, whBody, ebC1, ebB1, e1, e2, he x x, show (n : Int) < min (one.length : Int) other.length by omega]
    · right
      refine ⟨_, ?_, rfl⟩
      subst g
      rcases lcp_stop one other with g | ⟨x, y, e1, e2, e3⟩
      · simp (disch := first | omega | (simp only [List.length_map, List.length_append, List.length_cons, List.length_nil, List.length_take, List.length_drop, List.length_reverse, List.length_range', List.length_range] <;> omega) | fail) [runFn, cut_map, cut_to, cut_from, cut_mid, -getElem?_pos, -List.map_take, -List.map_drop, -List.length_flatten, -Prod.exists, tk_map, dr_map, List.getElem?_cons_zero, List.getElem?_cons_succ, whBody, ebC1, ebB1, show ¬ (lcp one other : Int) < min (one.length : Int) other.length by omega]
      · by_cases hlt : (lcp one other : Int) < min (one.length : Int) other.length
        · simp (disch := first | omega | (simp only [List.length_map, List.length_append, List.length_cons, List.length_nil, List.length_take, List.length_drop, List.length_reverse, List.length_range', List.length_range] <;> omega) | fail) [runFn, cut_map, cut_to, cut_from, cut_mid, -getElem?_pos, -List.map_take, -List.map_drop, -List.length_flatten, -Prod.exists, tk_map, dr_map, List.getElem?_cons_zero, List.getElem?_cons_succ, whBody, ebC1, ebB1, e1, e2, he x y, e3, hlt]
        · simp (disch := first | omega | (simp only [List.length_map, List.length_append, List.length_cons, List.length_nil, List.length_take, List.length_drop, List.length_reverse, List.length_range', List.length_range] <;> omega) | fail) [runFn, cut_map, cut_to, cut_from, cut_mid, -getElem?_pos, -List.map_take, -List.map_drop, -List.length_flatten, -Prod.exists, tk_map, dr_map, List.getElem?_cons_zero, List.getElem?_cons_succ, whBody, ebC1, ebB1, hlt]) 0 (by omega)
  rw [h2] at h1
  exact h1
theorem ixAt_rev {α : Type} (e : α → PV) (xs : List α) (i : Nat) (h : i < xs.length) : ixAt (xs.map e) ((xs.length : Int) - 1 - i) = (xs.reverse[i]?).map e := by
  rw [ixAt_pos _ _ (by omega), List.getElem?_map, List.getElem?_reverse h]
  congr 2; omega
theorem rev_drop {α : Type} (xs : List α) (n i : Nat) (h : i < xs.length - n) : (xs.drop n).reverse[i]? = xs.reverse[i]? := by
  rw [List.getElem?_reverse (by simpa using h), List.getElem?_reverse (by omega), List.getElem?_drop]
  congr 1; simp; omega
theorem eb_loop2 {α : Type} [DecidableEq α] (e : α → PV) (he : EqOk e) (cf) (one other : List α) (S : Sto) (at' : Nat) (h1 : at' ≤ one.length) (h2 : at' ≤ other.length) :
    loopW (whBody cf ebC2 ebB2) ([some (.pv (.tup (one.map e))), some (.pv (.tup (other.map e))), some (.pv (.int (min (one.length : Int) other.length))), some (.pv (.int at')), some (.pv (.int 0))], S) =
    .ok (.nx, [some (.pv (.tup (one.map e))), some (.pv (.tup (other.map e))), some (.pv (.int (min (one.length : Int) other.length))), some (.pv (.int at')), some (.pv (.int (lcp (one.drop at').reverse (other.drop at').reverse)))], S) := by
  obtain ⟨r, h1, h2⟩ := loopW_ind (f := whBody cf ebC2 ebB2) (α := Nat)
    (st := fun n => ([some (.pv (.tup (one.map e))), some (.pv (.tup (other.map e))), some (.pv (.int (min (one.length : Int) other.length))), some (.pv (.int at')), some (.pv (.int n))], S))
    (P := fun n => n ≤ lcp (one.drop at').reverse (other.drop at').reverse) (μ := fun n => lcp (one.drop at').reverse (other.drop at').reverse - n)
    (Q := fun _ r => r = (.nx, [some (.pv (.tup (one.map e))), some (.pv (.tup (other.map e))), some (.pv (.int (min (one.length : Int) other.length))), some (.pv (.int at')), some (.pv (.int (lcp (one.drop at').reverse (other.drop at').reverse)))], S)) (by
    intro n hn
    have hl := lcp_le (one.drop at').reverse (other.drop at').reverse
    simp only [List.length_reverse, List.length_drop] at hl
    rcases Nat.lt_or_eq_of_le hn with g | g
    · left
      obtain ⟨x, e1, e2⟩ := lcp_get _ _ n g
      rw [rev_drop _ _ _ (by omega)] at e1 e2
      refine ⟨n + 1, ?_, g, by omega, fun _ h => h⟩
      simp (disch := first | omega | (simp only [List.length_map, List.length_append, List.length_cons, List.length_nil, List.length_take, List.length_drop, List.length_reverse, List.length_range', List.length_range] <;> omega) | fail) [runFn, cut_map, cut_to, cut_from, cut_mid, -getElem?_pos, -List.map_take, -List.map_drop, -List.length_flatten, -Prod.exists, tk_map, dr_map, List.getElem?_cons_zero, List.getElem?_cons_succ, whBody, ebC2, ebB2, e1, e2, he x x, ixAt_rev, show (n : Int) < min (one.length : Int) other.length - at' by omega]
    · right
      refine ⟨_, ?_, rfl⟩
      by_cases hlt : (n : Int) < min (one.length : Int) other.length - at'
      · rcases lcp_stop (one.drop at').reverse (other.drop at').reverse with g2 | ⟨x, y, e1, e2, e3⟩
        · simp only [List.length_reverse, List.length_drop] at g2; omega
        · rw [← g] at e1 e2
          rw [rev_drop _ _ _ (by omega)] at e1 e2
          simp (disch := first | omega | (simp only [List.length_map, List.length_append, List.length_cons, List.length_nil, List.length_take, List.length_drop, List.length_reverse, List.length_range', List.length_range] <;> omega) | fail) [runFn, cut_map, cut_to, cut_from, cut_mid, -getElem?_pos, -List.map_take, -List.map_drop, -List.length_flatten, -Prod.exists, tk_map, dr_map, List.getElem?_cons_zero, List.getElem?_cons_succ, whBody, ebC2, ebB2, e1, e2, he x y, e3, hlt, ixAt_rev]
          rw [← g]
      · simp (disch := first | omega | (simp only [List.length_map, List.length_append, List.length_cons, List.length_nil, List.length_take, List.length_drop, List.length_reverse, List.length_range', List.length_range] <;> omega) | fail) [runFn, cut_map, cut_to, cut_from, cut_mid, -getElem?_pos, -List.map_take, -List.map_drop, -List.length_flatten, -Prod.exists, tk_map, dr_map, List.getElem?_cons_zero, List.getElem?_cons_succ, whBody, ebC2, ebB2, hlt]
        rw [← g]) 0 (by omega)
  rw [h2] at h1
  exact h1
end RS

set_option linter.all false
set_option maxRecDepth 100000
set_option maxHeartbeats 1000000
namespace RS
open PySem (Str)
def Cl (d : Nat) {α : Type} [DecidableEq α] (e : α → PV) : Prop := ∀ a b, shal d (e a) = true ∧ eqv (e a) (e b) = decide (a = b)
theorem Cl_int (d : Nat) : Cl d PV.int := by
  intro a b
  refine ⟨by cases d <;> rfl, ?_⟩
  rw [eqv]; rfl
theorem Cl_tup {d : Nat} {α : Type} [DecidableEq α] {e : α → PV} (h : Cl d e) : Cl (d + 1) (fun l : List α => .tup (l.map e)) := by
  intro a b
  constructor
  · show (a.map e).all (shal d) = true
    rw [List.all_map, List.all_eq_true]
    intro x _
    exact (h x x).1
  · show eqv (.tup (a.map e)) (.tup (b.map e)) = _
    rw [eqv]
    induction a generalizing b with
    | nil => cases b <;> simp [eqvs]
    | cons x a ih =>
      cases b with
      | nil => simp [eqvs]
      | cons y b =>
        rw [List.map_cons, List.map_cons, eqvs, ih, (h x y).2]
        by_cases h1 : x = y <;> by_cases h2 : a = b <;> simp [h1, h2]
theorem EqOk_int : EqOk PV.int := by
  intro a b
  rw [op2_eq_int]; rfl
theorem EqOk_tup {α : Type} [DecidableEq α] {e : α → PV} (h : Cl 59 e) : EqOk (fun l : List α => .tup (l.map e)) := by
  intro a b
  have h1 := Cl_tup h a b
  have h2 := Cl_tup h b a
  show (opEq (.tup (a.map e)) (.tup (b.map e))).map PV.bl = _
  have : opEq (.tup (a.map e)) (.tup (b.map e)) = if shal 60 (.tup (a.map e)) && shal 60 (.tup (b.map e)) then some (eqv (.tup (a.map e)) (.tup (b.map e))) else none := rfl
  rw [this, h1.1, h2.1, h1.2]; rfl
theorem Cl_eW (d : Nat) : Cl (d + 1) eW := Cl_tup (Cl_int d)
theorem EqOk_eW : EqOk eW := EqOk_tup (Cl_int 59)
theorem EqOk_eC : EqOk eC := EqOk_tup (Cl_eW 58)

theorem maxI_of {l : List Int} {m : Int} (hm : m ∈ l) (hle : ∀ x ∈ l, x ≤ m) : maxI l = some m := by
  cases l with
  | nil => simp at hm
  | cons a l =>
    show some (l.foldl max a) = some m
    congr 1
    have key : ∀ (l : List Int) (a : Int), (a ≤ m) → (∀ x ∈ l, x ≤ m) → (a = m ∨ m ∈ l) → l.foldl max a = m := by
      intro l
      induction l with
      | nil => intro a _ _ h; simpa using h
      | cons b l ih =>
        intro a h1 h2 h3
        rw [List.foldl_cons]
        have hb := h2 b (by simp)
        apply ih
        · omega
        · intro x hx; exact h2 x (by simp [hx])
        · rcases h3 with h3 | h3
          · left; omega
          · rcases List.mem_cons.mp h3 with h3 | h3
            · left; omega
            · exact Or.inr h3
    apply key
    · exact hle a (by simp)
    · intro x hx; exact hle x (by simp [hx])
    · rcases List.mem_cons.mp hm with h | h
      · exact Or.inl h.symm
      · exact Or.inr h
/-- the greatest of a filtered range -/
theorem max_range (q : Nat → Bool) (l : List Nat) (m : Nat) (hm : m ∈ l) (hq : q m = true) (hle : ∀ k ∈ l, q k = true → k ≤ m) :
    op1 .max (.lst ((l.filter q).map fun (n : Nat) => .int n)) = some (.int m) := by
  have h := op1_max ((l.filter q).map fun (n : Nat) => (n : Int))
  rw [List.map_map] at h
  have e : (PV.int ∘ fun (n : Nat) => (n : Int)) = fun (n : Nat) => PV.int n := rfl
  rw [e] at h
  rw [h, maxI_of (m := (m : Int))]
  · rfl
  · rw [List.mem_map]; exact ⟨m, by rw [List.mem_filter]; exact ⟨hm, hq⟩, rfl⟩
  · intro x hx
    obtain ⟨k, hk, rfl⟩ := List.mem_map.mp hx
    rw [List.mem_filter] at hk
    have := hle k hk.1 hk.2
    omega

section
variable {α : Type} [DecidableEq α]
def ebE (a b : List α) : Nat := lcp (a.drop (lcp a b)).reverse (b.drop (lcp a b)).reverse
theorem ebE_le (a b : List α) : lcp a b + ebE a b ≤ a.length ∧ lcp a b + ebE a b ≤ b.length := by
  have h1 := lcp_le a b
  have h2 := lcp_le (a.drop (lcp a b)).reverse (b.drop (lcp a b)).reverse
  simp only [List.length_reverse, List.length_drop] at h2
  unfold ebE; omega
/-- the edit between two rows -/
@[reducible] def eB (e : α → PV) (a b : List α) : PV := .tup [.int (lcp a b), .int ((a.length - lcp a b - ebE a b : Nat)), .tup (((b.drop (lcp a b)).take (b.length - lcp a b - ebE a b)).map e)]
theorem spec_edit_between (k : Nat) (a b : W) (S : Sto) :
    callF G (k + 1) 1 [.pv (eW a), .pv (eW b)] S = .ok (.pv (eB .int a b), S) := by
  have h1 := ebE_le a b
  rw [call_start G_edit_between]
  simp (disch := first | omega | (simp only [List.length_map, List.length_append, List.length_cons, List.length_nil, List.length_take, List.length_drop, List.length_reverse, List.length_range', List.length_range] <;> omega) | fail) [runFn, cut_map, cut_to, cut_from, cut_mid, -getElem?_pos, -List.map_take, -List.map_drop, -List.length_flatten, -Prod.exists, tk_map, dr_map, List.getElem?_cons_zero, List.getElem?_cons_succ, i_edit_between]
  refine bnd_of (eb_loop1 PV.int EqOk_int _ a b S) ?_
  simp (disch := first | omega | (simp only [List.length_map, List.length_append, List.length_cons, List.length_nil, List.length_take, List.length_drop, List.length_reverse, List.length_range', List.length_range] <;> omega) | fail) [runFn, cut_map, cut_to, cut_from, cut_mid, -getElem?_pos, -List.map_take, -List.map_drop, -List.length_flatten, -Prod.exists, tk_map, dr_map, List.getElem?_cons_zero, List.getElem?_cons_succ]
  refine bnd_of (eb_loop2 PV.int EqOk_int _ a b S (lcp a b) (lcp_le a b).1 (lcp_le a b).2) ?_
  have e : lcp (a.drop (lcp a b)).reverse (b.drop (lcp a b)).reverse = ebE a b := rfl
  simp (disch := first | omega | (simp only [List.length_map, List.length_append, List.length_cons, List.length_nil, List.length_take, List.length_drop, List.length_reverse, List.length_range', List.length_range] <;> omega) | fail) [runFn, cut_map, cut_to, cut_from, cut_mid, -getElem?_pos, -List.map_take, -List.map_drop, -List.length_flatten, -Prod.exists, tk_map, dr_map, List.getElem?_cons_zero, List.getElem?_cons_succ, e]
  refine ⟨by omega, ?_⟩
  congr 2; omega
theorem spec_alike (k : Nat) (a b : List W) (S : Sto) :
    callF G (k + 1) 11 [.pv (eC a), .pv (eC b)] S = .ok (.pv (.tup [.int (lcp a b), .int (ebE a b)]), S) := by
  rw [call_start G_alike_words]
  simp (disch := first | omega | (simp only [List.length_map, List.length_append, List.length_cons, List.length_nil, List.length_take, List.length_drop, List.length_reverse, List.length_range', List.length_range] <;> omega) | fail) [runFn, cut_map, cut_to, cut_from, cut_mid, -getElem?_pos, -List.map_take, -List.map_drop, -List.length_flatten, -Prod.exists, tk_map, dr_map, List.getElem?_cons_zero, List.getElem?_cons_succ, i_alike_words]
  refine bnd_of (eb_loop1 eW EqOk_eW _ a b S) ?_
  simp (disch := first | omega | (simp only [List.length_map, List.length_append, List.length_cons, List.length_nil, List.length_take, List.length_drop, List.length_reverse, List.length_range', List.length_range] <;> omega) | fail) [runFn, cut_map, cut_to, cut_from, cut_mid, -getElem?_pos, -List.map_take, -List.map_drop, -List.length_flatten, -Prod.exists, tk_map, dr_map, List.getElem?_cons_zero, List.getElem?_cons_succ]
  refine bnd_of (eb_loop2 eW EqOk_eW _ a b S (lcp a b) (lcp_le a b).1 (lcp_le a b).2) ?_
  have e : lcp (a.drop (lcp a b)).reverse (b.drop (lcp a b)).reverse = ebE a b := rfl
  simp (disch := first | omega | (simp only [List.length_map, List.length_append, List.length_cons, List.length_nil, List.length_take, List.length_drop, List.length_reverse, List.length_range', List.length_range] <;> omega) | fail) [runFn, cut_map, cut_to, cut_from, cut_mid, -getElem?_pos, -List.map_take, -List.map_drop, -List.length_flatten, -Prod.exists, tk_map, dr_map, List.getElem?_cons_zero, List.getElem?_cons_succ, e]
theorem drop_eq_iff (a b : List α) (k : Nat) : (a.drop (a.length - k) = b.drop (b.length - k)) ↔ a.reverse.take k = b.reverse.take k := by
  rw [List.take_reverse, List.take_reverse]
  constructor
  · intro h; rw [h]
  · intro h
    have := congrArg List.reverse h
    simpa using this
theorem spec_law_eb (e : α → PV) (he : EqOk (fun l : List α => .tup (l.map e))) (k : Nat) (a b : List α) (S : Sto) (ha : a.length ≤ 1000) (hb : b.length ≤ 1000) :
    callF G (k + 1) 20 [.pv (.tup (a.map e)), .pv (.tup (b.map e))] S = .ok (.pv (eB e a b), S) := by
  have h1 := ebE_le a b
  have hl := lcp_le a b
  have hr : ∀ x y : Nat, (rangeI 0 (min (x : Int) y + 1)).map PV.int = (List.range (min x y + 1)).map fun (n : Nat) => PV.int n := by
    intro x y
    rw [show (min (x : Int) y + 1) = ((min x y + 1 : Nat) : Int) by omega]
    exact ofNat_range0 _
  rw [call_start G_law_edit_between]
  simp (disch := first | omega | (simp only [List.length_map, List.length_append, List.length_cons, List.length_nil, List.length_take, List.length_drop, List.length_reverse, List.length_range', List.length_range] <;> omega) | fail) [runFn, cut_map, cut_to, cut_from, cut_mid, -getElem?_pos, -List.map_take, -List.map_drop, -List.length_flatten, -Prod.exists, tk_map, dr_map, List.getElem?_cons_zero, List.getElem?_cons_succ, i_law_edit_between, hr]
  refine bnd_of (loopC_flt (e := fun (n : Nat) => .int n) (q := fun n => decide (a.take n = b.take n)) (g := fun (n : Nat) => .int n) _ ?_) ?_
  · intro n _
    have := he (a.take n) (b.take n)
    by_cases hn : a.take n = b.take n
    · simp (disch := first | omega | (simp only [List.length_map, List.length_append, List.length_cons, List.length_nil, List.length_take, List.length_drop, List.length_reverse, List.length_range', List.length_range] <;> omega) | fail) [runFn, cut_map, cut_to, cut_from, cut_mid, -getElem?_pos, -List.map_take, -List.map_drop, -List.length_flatten, -Prod.exists, tk_map, dr_map, List.getElem?_cons_zero, List.getElem?_cons_succ, compBody, this, hn]
      rw [hn] at this
      simp (disch := first | omega | (simp only [List.length_map, List.length_append, List.length_cons, List.length_nil, List.length_take, List.length_drop, List.length_reverse, List.length_range', List.length_range] <;> omega) | fail) [runFn, cut_map, cut_to, cut_from, cut_mid, -getElem?_pos, -List.map_take, -List.map_drop, -List.length_flatten, -Prod.exists, tk_map, dr_map, List.getElem?_cons_zero, List.getElem?_cons_succ, this]
    · simp (disch := first | omega | (simp only [List.length_map, List.length_append, List.length_cons, List.length_nil, List.length_take, List.length_drop, List.length_reverse, List.length_range', List.length_range] <;> omega) | fail) [runFn, cut_map, cut_to, cut_from, cut_mid, -getElem?_pos, -List.map_take, -List.map_drop, -List.length_flatten, -Prod.exists, tk_map, dr_map, List.getElem?_cons_zero, List.getElem?_cons_succ, compBody, this, hn]
  have m1 := max_range (fun n => decide (a.take n = b.take n)) (List.range (min a.length b.length + 1)) (lcp a b) (by simp; omega) (by simpa using lcp_take a b _ (Nat.le_refl _)) (by
    intro k hk hq
    simp at hk hq
    exact take_lcp a b k (by omega) (by omega) hq)
  have f1 := List.length_filter_le (fun n => decide (a.take n = b.take n)) (List.range (min a.length b.length + 1))
  rw [List.length_range] at f1
  simp (disch := first | omega | (simp only [List.length_map, List.length_append, List.length_cons, List.length_nil, List.length_take, List.length_drop, List.length_reverse, List.length_range', List.length_range] <;> omega) | fail) [runFn, cut_map, cut_to, cut_from, cut_mid, -getElem?_pos, -List.map_take, -List.map_drop, -List.length_flatten, -Prod.exists, tk_map, dr_map, List.getElem?_cons_zero, List.getElem?_cons_succ, m1, hr]
  refine bnd_of (loopC_flt (e := fun (n : Nat) => .int n) (q := fun n => decide (a.drop (lcp a b + (a.length - lcp a b - n)) = b.drop (lcp a b + (b.length - lcp a b - n)))) (g := fun (n : Nat) => .int n) _ ?_) ?_
  · intro n hn
    rw [List.mem_range] at hn
    have := he (a.drop (lcp a b + (a.length - lcp a b - n))) (b.drop (lcp a b + (b.length - lcp a b - n)))
    by_cases hq : a.drop (lcp a b + (a.length - lcp a b - n)) = b.drop (lcp a b + (b.length - lcp a b - n))
    · rw [hq] at this
      simp (disch := first | omega | (simp only [List.length_map, List.length_append, List.length_cons, List.length_nil, List.length_take, List.length_drop, List.length_reverse, List.length_range', List.length_range] <;> omega) | fail) [runFn, cut_map, cut_to, cut_from, cut_mid, -getElem?_pos, -List.map_take, -List.map_drop, -List.length_flatten, -Prod.exists, tk_map, dr_map, List.getElem?_cons_zero, List.getElem?_cons_succ, compBody, hq]
      simp (disch := first | omega | (simp only [List.length_map, List.length_append, List.length_cons, List.length_nil, List.length_take, List.length_drop, List.length_reverse, List.length_range', List.length_range] <;> omega) | fail) [runFn, cut_map, cut_to, cut_from, cut_mid, -getElem?_pos, -List.map_take, -List.map_drop, -List.length_flatten, -Prod.exists, tk_map, dr_map, List.getElem?_cons_zero, List.getElem?_cons_succ, this]
    · simp (disch := first | omega | (simp only [List.length_map, List.length_append, List.length_cons, List.length_nil, List.length_take, List.length_drop, List.length_reverse, List.length_range', List.length_range] <;> omega) | fail) [runFn, cut_map, cut_to, cut_from, cut_mid, -getElem?_pos, -List.map_take, -List.map_drop, -List.length_flatten, -Prod.exists, tk_map, dr_map, List.getElem?_cons_zero, List.getElem?_cons_succ, compBody, this, hq]
  have hc : ∀ n, (a.drop (lcp a b + (a.length - lcp a b - n)) = b.drop (lcp a b + (b.length - lcp a b - n))) ↔ (a.drop (lcp a b)).reverse.take n = (b.drop (lcp a b)).reverse.take n := by
    intro n
    rw [← drop_eq_iff, List.drop_drop, List.drop_drop, List.length_drop, List.length_drop]
  have hl2 := lcp_le (a.drop (lcp a b)).reverse (b.drop (lcp a b)).reverse
  simp only [List.length_reverse, List.length_drop] at hl2
  have m2 := max_range (fun n => decide (a.drop (lcp a b + (a.length - lcp a b - n)) = b.drop (lcp a b + (b.length - lcp a b - n)))) (List.range (min (a.length - lcp a b) (b.length - lcp a b) + 1)) (ebE a b) (by simp; omega) (by
    rw [decide_eq_true_iff, hc]; exact lcp_take _ _ _ (Nat.le_refl _)) (by
    intro k hk hq
    rw [List.mem_range] at hk
    rw [decide_eq_true_iff, hc] at hq
    exact take_lcp _ _ k (by simp; omega) (by simp; omega) hq)
  have f2 := List.length_filter_le (fun n => decide (a.drop (lcp a b + (a.length - lcp a b - n)) = b.drop (lcp a b + (b.length - lcp a b - n)))) (List.range (min (a.length - lcp a b) (b.length - lcp a b) + 1))
  rw [List.length_range] at f2
  simp (disch := first | omega | (simp only [List.length_map, List.length_append, List.length_cons, List.length_nil, List.length_take, List.length_drop, List.length_reverse, List.length_range', List.length_range] <;> omega) | fail) [runFn, cut_map, cut_to, cut_from, cut_mid, -getElem?_pos, -List.map_take, -List.map_drop, -List.length_flatten, -Prod.exists, tk_map, dr_map, List.getElem?_cons_zero, List.getElem?_cons_succ, m2]
  omega
end
end RS

set_option linter.all false
set_option maxRecDepth 100000
set_option maxHeartbeats 1000000
namespace RS
open PySem (Str)
theorem spec_law_alike (k : Nat) (a b : List W) (S : Sto) (ha : a.length ≤ 1000) (hb : b.length ≤ 1000) :
    callF G (k + 2) 25 [.pv (eC a), .pv (eC b)] S = .ok (.pv (.tup [.int (lcp a b), .int (ebE a b)]), S) := by
  have h1 := ebE_le a b
  rw [call_start G_law_alike]
  simp (disch := first | omega | (simp only [List.length_map, List.length_append, List.length_cons, List.length_nil, List.length_take, List.length_drop, List.length_reverse, List.length_range', List.length_range] <;> omega) | fail) [runFn, cut_map, cut_to, cut_from, cut_mid, -getElem?_pos, -List.map_take, -List.map_drop, -List.length_flatten, -Prod.exists, tk_map, dr_map, List.getElem?_cons_zero, List.getElem?_cons_succ, i_law_alike, spec_law_eb eW EqOk_eC]
  omega
theorem spec_law_edited (k : Nat) (w x : W) (a m : Nat) (S : Sto) (h : w.length ≤ 1000) (hx : x.length ≤ 1000) :
    callF G (k + 1) 21 [.pv (eW w), .pv (eE a m x)] S = .ok (.pv (eW (edP w a m x)), S) := by
  rw [call_start G_law_edited]
  simp (disch := first | omega | (simp only [List.length_map, List.length_append, List.length_cons, List.length_nil, List.length_take, List.length_drop, List.length_reverse, List.length_range', List.length_range] <;> omega) | fail) [runFn, cut_map, cut_to, cut_from, cut_mid, -getElem?_pos, -List.map_take, -List.map_drop, -List.length_flatten, -Prod.exists, tk_map, dr_map, List.getElem?_cons_zero, List.getElem?_cons_succ, i_law_edited, edP, show ((a : Int) + m).toNat = a + m by omega]
/-- words come through -/
def along : W → List (Nat × Nat × W) → List W
  | w, [] => [w]
  | w, e :: r => w :: along (edP w e.1 e.2.1 e.2.2) r
def lastW : W → List (Nat × Nat × W) → W
  | w, [] => w
  | w, e :: r => lastW (edP w e.1 e.2.1 e.2.2) r
theorem along_snoc : ∀ (r : List (Nat × Nat × W)) (w : W) (e : Nat × Nat × W), along w (r ++ [e]) = along w r ++ [edP (lastW w r) e.1 e.2.1 e.2.2]
  | [], w, e => rfl
  | c :: r, w, e => by
    show w :: along _ (r ++ [e]) = w :: along _ r ++ _
    rw [along_snoc r]; rfl
theorem last_snoc : ∀ (r : List (Nat × Nat × W)) (w : W) (e : Nat × Nat × W), lastW w (r ++ [e]) = edP (lastW w r) e.1 e.2.1 e.2.2
  | [], w, e => rfl
  | c :: r, w, e => last_snoc r _ e
/-- edits that fit -/
def Fit : W → List (Nat × Nat × W) → Prop
  | _, [] => True
  | w, e :: r => w.length ≤ 100 ∧ e.2.2.length ≤ 100 ∧ e.1 + e.2.1 ≤ w.length ∧ Fit (edP w e.1 e.2.1 e.2.2) r
theorem Fit_snoc : ∀ (r : List (Nat × Nat × W)) (w : W) (e : Nat × Nat × W), Fit w r → (lastW w r).length ≤ 100 → e.2.2.length ≤ 100 → e.1 + e.2.1 ≤ (lastW w r).length → Fit w (r ++ [e])
  | [], w, e, _, h1, h2, h3 => ⟨h1, h2, h3, trivial⟩
  | c :: r, w, e, h, h1, h2, h3 => ⟨h.1, h.2.1, h.2.2.1, Fit_snoc r _ e h.2.2.2 h1 h2 h3⟩
@[reducible] def eEd (e : Nat × Nat × W) : PV := eE e.1 e.2.1 e.2.2
@[reducible] def eCut (w : W) : PV := eC (lc w)

theorem nat_beq0 (n : Nat) : ((n : Int) == 0) = decide (n = 0) := by cases n <;> simp; omega
theorem spec_is_least (k : Nat) (w : W) (S : Sto) (h : w.length ≤ 1000) :
    ∃ b, callF G (k + 1) 17 [.pv (eW w)] S = .ok (.pv (.bl b), S) ∧ (b = true ↔ Lyn w) := by
  rw [call_start G_law_is_least]
  by_cases h0 : w = []
  · subst h0
    refine ⟨false, ?_, by simp [Lyn]⟩
    simp (disch := first | omega | (simp only [List.length_map, List.length_append, List.length_cons, List.length_nil, List.length_take, List.length_drop, List.length_reverse, List.length_range', List.length_range] <;> omega) | fail) [runFn, cut_map, cut_to, cut_from, cut_mid, -getElem?_pos, -List.map_take, -List.map_drop, -List.length_flatten, -Prod.exists, tk_map, dr_map, List.getElem?_cons_zero, List.getElem?_cons_succ, i_law_is_least]
  · have hl : 0 < w.length := by cases w <;> simp_all
    refine ⟨decide (((List.range' 1 (w.length - 1)).filter (fun n => lexLe (w.drop n ++ w.take n) w)).length = 0), ?_, ?_⟩
    · have f1 := List.length_filter_le (fun n => lexLe (w.drop n ++ w.take n) w) (List.range' 1 (w.length - 1))
      rw [List.length_range'] at f1
      have hr := ofNat_range 1 w.length
      rw [show ((1 : Nat) : Int) = 1 from rfl] at hr
      simp (disch := first | omega | (simp only [List.length_map, List.length_append, List.length_cons, List.length_nil, List.length_take, List.length_drop, List.length_reverse, List.length_range', List.length_range] <;> omega) | fail) [runFn, cut_map, cut_to, cut_from, cut_mid, -getElem?_pos, -List.map_take, -List.map_drop, -List.length_flatten, -Prod.exists, tk_map, dr_map, List.getElem?_cons_zero, List.getElem?_cons_succ, i_law_is_least, hl, hr]
      refine bnd_of (loopC_flt (e := fun (n : Nat) => .int n) (q := fun n => lexLe (w.drop n ++ w.take n) w) (g := fun (n : Nat) => .int n) _ ?_) ?_
      · intro n _
        have := op2_le_w (w.drop n ++ w.take n) w
        rw [List.map_append] at this
        by_cases hq : lexLe (w.drop n ++ w.take n) w = true
        · rw [hq] at this
          simp (disch := first | omega | (simp only [List.length_map, List.length_append, List.length_cons, List.length_nil, List.length_take, List.length_drop, List.length_reverse, List.length_range', List.length_range] <;> omega) | fail) [runFn, cut_map, cut_to, cut_from, cut_mid, -getElem?_pos, -List.map_take, -List.map_drop, -List.length_flatten, -Prod.exists, tk_map, dr_map, List.getElem?_cons_zero, List.getElem?_cons_succ, compBody, this, hq]
        · rw [Bool.not_eq_true] at hq
          rw [hq] at this
          simp (disch := first | omega | (simp only [List.length_map, List.length_append, List.length_cons, List.length_nil, List.length_take, List.length_drop, List.length_reverse, List.length_range', List.length_range] <;> omega) | fail) [runFn, cut_map, cut_to, cut_from, cut_mid, -getElem?_pos, -List.map_take, -List.map_drop, -List.length_flatten, -Prod.exists, tk_map, dr_map, List.getElem?_cons_zero, List.getElem?_cons_succ, compBody, this, hq]
      · simp (disch := first | omega | (simp only [List.length_map, List.length_append, List.length_cons, List.length_nil, List.length_take, List.length_drop, List.length_reverse, List.length_range', List.length_range] <;> omega) | fail) [runFn, cut_map, cut_to, cut_from, cut_mid, -getElem?_pos, -List.map_take, -List.map_drop, -List.length_flatten, -Prod.exists, tk_map, dr_map, List.getElem?_cons_zero, List.getElem?_cons_succ]
        exact nat_beq0 _
    · rw [decide_eq_true_iff, List.length_eq_zero_iff, List.filter_eq_nil_iff, Lyn_turns w h0]
      constructor
      · intro h k h1 h2
        have := h k (by rw [List.mem_range'_1]; omega)
        simpa using this
      · intro h k hk
        rw [List.mem_range'_1] at hk
        rw [h k (by omega) (by omega)]; simp
open Classical in
theorem spec_is_least' (k : Nat) (w : W) (S : Sto) (h : w.length ≤ 1000) : callF G (k + 1) 17 [.pv (eW w)] S = .ok (.pv (.bl (decide (Lyn w))), S) := by
  obtain ⟨b, h1, h2⟩ := spec_is_least k w S h
  rw [h1]
  congr 4
  by_cases hb : b = true
  · rw [hb, decide_eq_true (h2.mp hb)]
  · rw [decide_eq_false (fun g => hb (h2.mpr g))]; simpa using hb
open Classical in
theorem spec_law_cut (k : Nat) (w : W) (S : Sto) (h : w.length ≤ 1000) :
    callF G (k + 2) 18 [.pv (eW w)] S = .ok (.pv (eCut w), S) := by
  rw [call_start G_law_cut]
  simp (disch := first | omega | (simp only [List.length_map, List.length_append, List.length_cons, List.length_nil, List.length_take, List.length_drop, List.length_reverse, List.length_range', List.length_range] <;> omega) | fail) [runFn, cut_map, cut_to, cut_from, cut_mid, -getElem?_pos, -List.map_take, -List.map_drop, -List.length_flatten, -Prod.exists, tk_map, dr_map, List.getElem?_cons_zero, List.getElem?_cons_succ, i_law_cut, ofNat_range0]
  refine bnd_ex (loopF_iv (e := fun (n : Nat) => .int n)
      (P := fun r ρ S' => ∃ rest done v2 v3, ρ = [some (.pv (eW rest)), some (.loc S.length), v2, v3, none] ∧ S' = S ++ [.lst (done.map eW)] ∧ done ++ lc rest = lc w ∧ (lc rest).length ≤ r.length ∧ rest.length ≤ 1000 ∧ done.length + r.length ≤ 1000) ?_ (List.range w.length) _ _ ⟨w, [], none, none, rfl, rfl, rfl, by have := lc_len w; simpa using this, h, by simpa using h⟩) ?_
  · rintro n r ρ S' ⟨rest, done, v2, v3, rfl, rfl, e1, e2, e3, e4⟩
    rw [List.length_cons] at e4
    by_cases h0 : rest = []
    · subst h0
      refine ⟨_, _, ?_, [], done, some (.pv (.int n)), v3, rfl, rfl, e1, by simp [lc_nil], by simp, by omega⟩
      simp (disch := first | omega | (simp only [List.length_map, List.length_append, List.length_cons, List.length_nil, List.length_take, List.length_drop, List.length_reverse, List.length_range', List.length_range] <;> omega) | fail) [runFn, cut_map, cut_to, cut_from, cut_mid, -getElem?_pos, -List.map_take, -List.map_drop, -List.length_flatten, -Prod.exists, tk_map, dr_map, List.getElem?_cons_zero, List.getElem?_cons_succ, forBody]
    · have hl : 0 < rest.length := by cases rest <;> simp_all
      obtain ⟨hd, t, ht⟩ : ∃ hd t, lc rest = hd :: t := by
        cases e : lc rest with
        | nil => have := lc_flat rest; rw [e] at this; exact absurd this.symm h0
        | cons a b => exact ⟨a, b, rfl⟩
      have hF := lc_Fal rest
      have hfl := lc_flat rest
      rw [ht] at hF hfl e2
      have hF2 := Fal_cons.mp hF
      rw [List.flatten_cons] at hfl
      have hlen := congrArg List.length hfl
      rw [List.length_append] at hlen
      have hh : 0 < hd.length := by have := hF2.1.1; cases hd <;> simp_all
      have tk : rest.take hd.length = hd := by rw [← hfl, List.take_left]
      have dr : rest.drop hd.length = t.flatten := by rw [← hfl, List.drop_left]
      have hlt : lc t.flatten = t := lc_of hF2.2.2 rfl
      have m1 := max_range (fun n => decide (Lyn (rest.take n))) (List.range' 1 rest.length) hd.length (by rw [List.mem_range'_1]; omega) (by rw [decide_eq_true_iff, tk]; exact hF2.1) (by
        intro n hn hq
        rw [List.mem_range'_1] at hn
        rw [decide_eq_true_iff] at hq
        have := head_max hF hq (by rw [List.flatten_cons, hfl]; exact List.take_prefix _ _)
        rw [List.length_take] at this; omega)
      have f1 := List.length_filter_le (fun n => decide (Lyn (rest.take n))) (List.range' 1 rest.length)
      rw [List.length_range'] at f1
      have hr := ofNat_range 1 (rest.length + 1)
      rw [show ((1 : Nat) : Int) = 1 from rfl, show ((rest.length + 1 : Nat) : Int) = (rest.length : Int) + 1 from rfl, show rest.length + 1 - 1 = rest.length by omega] at hr
      have q1 : (done ++ [hd]) ++ lc t.flatten = lc w := by rw [List.append_assoc, ← e1, hlt, ht]; rfl
      have q2 : (lc t.flatten).length ≤ r.length := by rw [hlt]; simpa using e2
      have q3 : t.flatten.length ≤ 1000 := by omega
      have q4 : (done ++ [hd]).length + r.length ≤ 1000 := by rw [List.length_append, List.length_singleton]; omega
      refine ⟨_, _, ?_, t.flatten, done ++ [hd], some (.pv (.int n)), some (.pv (.int hd.length)), rfl, rfl, q1, q2, q3, q4⟩
      simp (disch := first | omega | (simp only [List.length_map, List.length_append, List.length_cons, List.length_nil, List.length_take, List.length_drop, List.length_reverse, List.length_range', List.length_range] <;> omega) | fail) [runFn, cut_map, cut_to, cut_from, cut_mid, -getElem?_pos, -List.map_take, -List.map_drop, -List.length_flatten, -Prod.exists, tk_map, dr_map, List.getElem?_cons_zero, List.getElem?_cons_succ, forBody, hl, hr]
      refine bnd_of (loopC_flt (e := fun (n : Nat) => .int n) (q := fun n => decide (Lyn (rest.take n))) (g := fun (n : Nat) => .int n) _ ?_) ?_
      · intro n _
        by_cases hq : Lyn (rest.take n)
        · simp (disch := first | omega | (simp only [List.length_map, List.length_append, List.length_cons, List.length_nil, List.length_take, List.length_drop, List.length_reverse, List.length_range', List.length_range] <;> omega) | fail) [runFn, cut_map, cut_to, cut_from, cut_mid, -getElem?_pos, -List.map_take, -List.map_drop, -List.length_flatten, -Prod.exists, tk_map, dr_map, List.getElem?_cons_zero, List.getElem?_cons_succ, compBody, spec_is_least', hq]
        · simp (disch := first | omega | (simp only [List.length_map, List.length_append, List.length_cons, List.length_nil, List.length_take, List.length_drop, List.length_reverse, List.length_range', List.length_range] <;> omega) | fail) [runFn, cut_map, cut_to, cut_from, cut_mid, -getElem?_pos, -List.map_take, -List.map_drop, -List.length_flatten, -Prod.exists, tk_map, dr_map, List.getElem?_cons_zero, List.getElem?_cons_succ, compBody, spec_is_least', hq]
      · simp (disch := first | omega | (simp only [List.length_map, List.length_append, List.length_cons, List.length_nil, List.length_take, List.length_drop, List.length_reverse, List.length_range', List.length_range] <;> omega) | fail) [runFn, cut_map, cut_to, cut_from, cut_mid, -getElem?_pos, -List.map_take, -List.map_drop, -List.length_flatten, -Prod.exists, tk_map, dr_map, List.getElem?_cons_zero, List.getElem?_cons_succ, m1, tk, dr]
  · rintro _ ⟨ρ', S', rfl, rest, done, v2, v3, rfl, rfl, e1, e2, e3, e4⟩
    have : lc rest = [] := by
      cases e : lc rest with
      | nil => rfl
      | cons a b => rw [e] at e2; simp at e2
    rw [this, List.append_nil] at e1
    subst e1
    simp (disch := first | omega | (simp only [List.length_map, List.length_append, List.length_cons, List.length_nil, List.length_take, List.length_drop, List.length_reverse, List.length_range', List.length_range] <;> omega) | fail) [runFn, cut_map, cut_to, cut_from, cut_mid, -getElem?_pos, -List.map_take, -List.map_drop, -List.length_flatten, -Prod.exists, tk_map, dr_map, List.getElem?_cons_zero, List.getElem?_cons_succ]
end RS

set_option linter.all false
set_option maxRecDepth 100000
set_option maxHeartbeats 1000000
namespace RS
open PySem (Str)
def nthI (w : W) (i : Nat) : Int := w.getD i 0
theorem get_nthI (w : W) (i : Nat) (h : i < w.length) : w[i]? = some (nthI w i) := by simp [nthI, List.getD, h]
theorem drop_getD (w : W) (s : Nat) : (fun i => (w.drop s).getD i 0) = fun i => nthI w (s + i) := by
  funext i; rw [getD_drop]; rfl
theorem spec_cut_of (k : Nat) (w : W) (S : Sto) (h : w.length ≤ 1000) :
    callF G (k + 1) 0 [.pv (eW w)] S = .ok (.pv (eCut w), S) := by
  rw [call_start G_cut_of]
  simp (disch := first | omega | (simp only [List.length_map, List.length_append, List.length_cons, List.length_nil, List.length_take, List.length_drop, List.length_reverse, List.length_range', List.length_range] <;> omega) | fail) [runFn, cut_map, cut_to, cut_from, cut_mid, -getElem?_pos, -List.map_take, -List.map_drop, -List.length_flatten, -Prod.exists, tk_map, dr_map, List.getElem?_cons_zero, List.getElem?_cons_succ, i_cut_of]
  refine bnd_ex (loopW_ind (α := Nat × List W × Option Val × Option Val)
    (st := fun a => ([some (.pv (eW w)), some (.loc S.length), some (.pv (.int a.1)), a.2.2.1, a.2.2.2], S ++ [.lst (a.2.1.map eW)]))
    (P := fun a => a.1 ≤ w.length ∧ a.2.1 ++ lc (w.drop a.1) = lc w) (μ := fun a => w.length - a.1)
    (Q := fun a r => ∃ ρ, r = (.nx, some (.pv (eW w)) :: some (.loc S.length) :: ρ, S ++ [.lst ((lc w).map eW)])) ?_ (0, [], none, none) ⟨by simp, rfl⟩) ?_
  · rintro ⟨s, done, v3, v4⟩ ⟨h1, h2⟩
    dsimp only at h1 h2
    by_cases hs : s < w.length
    · left
      have hd : done.length ≤ w.length := by
        have := congrArg List.length h2
        rw [List.length_append] at this
        have := lc_len w
        omega
      obtain ⟨Q, hQ⟩ : ∃ Q : (Env × Sto) ⊕ (Flow × Env × Sto) → Prop, Q = fun r => ∃ s' done' e b, r = .inl ([some (.pv (eW w)), some (.loc S.length), some (.pv (.int (s' : Nat))), some (.pv (.int (e : Nat))), some (.pv (.int (b : Nat)))], S ++ [.lst (done'.map eW)]) ∧ s < s' ∧ s' ≤ w.length ∧ done' ++ lc (w.drop s') = lc w := ⟨_, rfl⟩
      suffices hq : ∃ r, whBody (callF G k) _ _ ([some (.pv (eW w)), some (.loc S.length), some (.pv (.int s)), v3, v4], S ++ [.lst (done.map eW)]) = .ok r ∧ Q r by
        rw [hQ] at hq
        obtain ⟨r, g1, s', done', e, b, rfl, g2, g3, g4⟩ := hq
        exact ⟨(s', done', some (.pv (.int e)), some (.pv (.int b))), g1, ⟨g3, g4⟩, by simp only; omega, fun r hr => hr⟩
      simp (disch := first | omega | (simp only [List.length_map, List.length_append, List.length_cons, List.length_nil, List.length_take, List.length_drop, List.length_reverse, List.length_range', List.length_range] <;> omega) | fail) [runFn, cut_map, cut_to, cut_from, cut_mid, -getElem?_pos, -List.map_take, -List.map_drop, -List.length_flatten, -Prod.exists, tk_map, dr_map, List.getElem?_cons_zero, List.getElem?_cons_succ, whBody, hs]
      refine bnd_exx (loopW_ind (α := Nat × Nat)
        (st := fun a => ([some (.pv (eW w)), some (.loc S.length), some (.pv (.int s)), some (.pv (.int a.1)), some (.pv (.int a.2))], S ++ [.lst (done.map eW)]))
        (P := fun a => s ≤ a.2 ∧ a.2 < a.1 ∧ a.1 ≤ w.length ∧ Duv (fun i => (w.drop s).getD i 0) (a.1 - s) (a.1 - a.2)) (μ := fun a => w.length - a.1)
        (Q := fun _ r => ∃ e b : Nat, r = (.nx, [some (.pv (eW w)), some (.loc S.length), some (.pv (.int s)), some (.pv (.int e)), some (.pv (.int b))], S ++ [.lst (done.map eW)]) ∧ s ≤ b ∧ b < e ∧ e ≤ w.length ∧ Duv (fun i => (w.drop s).getD i 0) (e - s) (e - b) ∧ (e = w.length ∨ nthI w e < nthI w b)) ?_ (s + 1, s) ?_) ?_
      · rintro ⟨e, b⟩ ⟨p1, p2, p3, p4⟩
        dsimp only at p1 p2 p3 p4
        have zb : (fun i => (w.drop s).getD i 0) ((e - s) - (e - b)) = nthI w b := by
          show (w.drop s).getD _ 0 = _
          rw [getD_drop]; show nthI w _ = _; congr 1; omega
        have ze : (fun i => (w.drop s).getD i 0) (e - s) = nthI w e := by
          show (w.drop s).getD _ 0 = _
          rw [getD_drop]; show nthI w _ = _; congr 1; omega
        by_cases he : e < w.length
        · have gb := get_nthI w b (by omega)
          have ge := get_nthI w e he
          rcases Int.lt_trichotomy (nthI w b) (nthI w e) with hc | hc | hc
          · left
            refine ⟨(e + 1, s), ?_, ⟨by simp only; omega, by simp only; omega, by simp only; omega, ?_⟩, by simp only; omega, fun _ h => h⟩
            · simp (disch := first | omega | (simp only [List.length_map, List.length_append, List.length_cons, List.length_nil, List.length_take, List.length_drop, List.length_reverse, List.length_range', List.length_range] <;> omega) | fail) [runFn, cut_map, cut_to, cut_from, cut_mid, -getElem?_pos, -List.map_take, -List.map_drop, -List.length_flatten, -Prod.exists, tk_map, dr_map, List.getElem?_cons_zero, List.getElem?_cons_succ, whBody, he, gb, ge, hc, show nthI w b ≤ nthI w e by omega]
            · have := Duv_up p4 (by rw [← zb, ← ze] at hc; exact hc)
              dsimp only
              rw [show e + 1 - s = e - s + 1 by omega]
              exact this
          · left
            refine ⟨(e + 1, b + 1), ?_, ⟨by simp only; omega, by simp only; omega, by simp only; omega, ?_⟩, by simp only; omega, fun _ h => h⟩
            · simp (disch := first | omega | (simp only [List.length_map, List.length_append, List.length_cons, List.length_nil, List.length_take, List.length_drop, List.length_reverse, List.length_range', List.length_range] <;> omega) | fail) [runFn, cut_map, cut_to, cut_from, cut_mid, -getElem?_pos, -List.map_take, -List.map_drop, -List.length_flatten, -Prod.exists, tk_map, dr_map, List.getElem?_cons_zero, List.getElem?_cons_succ, whBody, he, gb, ge, hc]
            · have := Duv_eq p4 (by rw [← zb, ← ze] at hc; exact hc)
              dsimp only
              rw [show e + 1 - s = e - s + 1 by omega, show e + 1 - (b + 1) = e - b by omega]
              exact this
          · right
            refine ⟨_, ?_, e, b, rfl, p1, p2, p3, p4, Or.inr hc⟩
            simp (disch := first | omega | (simp only [List.length_map, List.length_append, List.length_cons, List.length_nil, List.length_take, List.length_drop, List.length_reverse, List.length_range', List.length_range] <;> omega) | fail) [runFn, cut_map, cut_to, cut_from, cut_mid, -getElem?_pos, -List.map_take, -List.map_drop, -List.length_flatten, -Prod.exists, tk_map, dr_map, List.getElem?_cons_zero, List.getElem?_cons_succ, whBody, he, gb, ge, show ¬ nthI w b ≤ nthI w e by omega]
        · right
          refine ⟨_, ?_, e, b, rfl, p1, p2, p3, p4, Or.inl (by omega)⟩
          simp (disch := first | omega | (simp only [List.length_map, List.length_append, List.length_cons, List.length_nil, List.length_take, List.length_drop, List.length_reverse, List.length_range', List.length_range] <;> omega) | fail) [runFn, cut_map, cut_to, cut_from, cut_mid, -getElem?_pos, -List.map_take, -List.map_drop, -List.length_flatten, -Prod.exists, tk_map, dr_map, List.getElem?_cons_zero, List.getElem?_cons_succ, whBody, he]
      · refine ⟨by simp, by simp, by simp only; omega, ?_⟩
        dsimp only
        rw [show s + 1 - s = 1 by omega]
        exact Duv_one _
      · rintro _ ⟨e, b, rfl, p1, p2, p3, p4, p5⟩
        have hP := Per_of_Duv (s := w.drop s) p4 (by rw [List.length_drop]; omega) (by
          rcases p5 with p5 | p5
          · left; rw [List.length_drop]; omega
          · right
            rw [getD_drop, getD_drop, show s + (e - s) = e by omega, show s + (e - s - (e - b)) = b by omega]; exact p5)
        generalize (w.drop s).take (e - b) = u at hP
        obtain ⟨hP, hu, hul⟩ := hP
        simp (disch := first | omega | (simp only [List.length_map, List.length_append, List.length_cons, List.length_nil, List.length_take, List.length_drop, List.length_reverse, List.length_range', List.length_range] <;> omega) | fail) [runFn, cut_map, cut_to, cut_from, cut_mid, -getElem?_pos, -List.map_take, -List.map_drop, -List.length_flatten, -Prod.exists, tk_map, dr_map, List.getElem?_cons_zero, List.getElem?_cons_succ]
        refine bnd_exx (loopW_ind (α := Nat × List W)
          (st := fun a => ([some (.pv (eW w)), some (.loc S.length), some (.pv (.int a.1)), some (.pv (.int e)), some (.pv (.int b))], S ++ [.lst (a.2.map eW)]))
          (P := fun a => a.1 ≤ e ∧ Per u (w.drop a.1) (e - a.1) ∧ a.2 ++ lc (w.drop a.1) = lc w) (μ := fun a => w.length - a.1)
          (Q := fun _ r => ∃ (s' : Nat) (done' : List W), r = (.nx, [some (.pv (eW w)), some (.loc S.length), some (.pv (.int s')), some (.pv (.int e)), some (.pv (.int b))], S ++ [.lst (done'.map eW)]) ∧ b < s' ∧ s' ≤ e ∧ done' ++ lc (w.drop s') = lc w) ?_ (s, done) ⟨by simp only; omega, hP, h2⟩) ?_
        · rintro ⟨t, dn⟩ ⟨q1, q2, q3⟩
          dsimp only at q1 q2 q3
          have hdn : dn.length ≤ w.length := by
            have := congrArg List.length q3
            rw [List.length_append] at this
            have := lc_len w
            omega
          by_cases ht : t ≤ b
          · left
            have r1 := Per_take q2 (by omega)
            have r2 := Per_drop q2 (by omega)
            have r3 := (lc_step hu _ _ q2).2 (by omega)
            rw [hul] at r1
            rw [hul, List.drop_drop] at r2 r3
            refine ⟨(t + (e - b), dn ++ [u]), ?_, ⟨by simp only; omega, ?_, ?_⟩, by simp only; omega, fun _ h => h⟩
            · simp (disch := first | omega | (simp only [List.length_map, List.length_append, List.length_cons, List.length_nil, List.length_take, List.length_drop, List.length_reverse, List.length_range', List.length_range] <;> omega) | fail) [runFn, cut_map, cut_to, cut_from, cut_mid, -getElem?_pos, -List.map_take, -List.map_drop, -List.length_flatten, -Prod.exists, tk_map, dr_map, List.getElem?_cons_zero, List.getElem?_cons_succ, whBody, ht, show ((t : Int) + e - b).toNat - t = e - b by omega, r1]
              refine ⟨by omega, ?_⟩
              rw [show ((t : Int) + e).toNat - b - t = e - b by omega, r1]
            · dsimp only
              rw [show e - (t + (e - b)) = e - t - (e - b) by omega]; exact r2
            · dsimp only
              rw [← q3, r3, List.append_assoc]; rfl
          · right
            refine ⟨_, ?_, t, dn, rfl, by omega, q1, q3⟩
            simp (disch := first | omega | (simp only [List.length_map, List.length_append, List.length_cons, List.length_nil, List.length_take, List.length_drop, List.length_reverse, List.length_range', List.length_range] <;> omega) | fail) [runFn, cut_map, cut_to, cut_from, cut_mid, -getElem?_pos, -List.map_take, -List.map_drop, -List.length_flatten, -Prod.exists, tk_map, dr_map, List.getElem?_cons_zero, List.getElem?_cons_succ, whBody, ht]
        · rintro _ ⟨s', done', rfl, q1, q2, q3⟩
          rw [hQ]
          refine ⟨_, ?_, s', done', e, b, rfl, by omega, by omega, q3⟩
          simp (disch := first | omega | (simp only [List.length_map, List.length_append, List.length_cons, List.length_nil, List.length_take, List.length_drop, List.length_reverse, List.length_range', List.length_range] <;> omega) | fail) [runFn, cut_map, cut_to, cut_from, cut_mid, -getElem?_pos, -List.map_take, -List.map_drop, -List.length_flatten, -Prod.exists, tk_map, dr_map, List.getElem?_cons_zero, List.getElem?_cons_succ]
    · right
      have h3 : w.drop s = [] := List.drop_of_length_le (by omega)
      rw [h3, lc_nil, List.append_nil] at h2
      subst h2
      refine ⟨_, ?_, [some (.pv (.int s)), v3, v4], rfl⟩
      simp (disch := first | omega | (simp only [List.length_map, List.length_append, List.length_cons, List.length_nil, List.length_take, List.length_drop, List.length_reverse, List.length_range', List.length_range] <;> omega) | fail) [runFn, cut_map, cut_to, cut_from, cut_mid, -getElem?_pos, -List.map_take, -List.map_drop, -List.length_flatten, -Prod.exists, tk_map, dr_map, List.getElem?_cons_zero, List.getElem?_cons_succ, whBody, hs]
  · rintro _ ⟨ρ, rfl⟩
    simp (disch := first | omega | (simp only [List.length_map, List.length_append, List.length_cons, List.length_nil, List.length_take, List.length_drop, List.length_reverse, List.length_range', List.length_range] <;> omega) | fail) [runFn, cut_map, cut_to, cut_from, cut_mid, -getElem?_pos, -List.map_take, -List.map_drop, -List.length_flatten, -Prod.exists, tk_map, dr_map, List.getElem?_cons_zero, List.getElem?_cons_succ]
end RS

set_option linter.all false
set_option maxRecDepth 100000
set_option maxHeartbeats 1000000
namespace RS
open PySem (Str)
/-- a store that begins with draws -/
@[reducible] def St (D : List Int) (R : Sto) : Sto := .lst (D.map .int) :: R
theorem spec_take (k : Nat) (D : List Int) (R : Sto) (m : Int) (hm : 0 < m) :
    ∃ (r : Nat) (D' : List Int), callF G (k + 1) 14 [.loc 0, .pv (.int m)] (St D R) = .ok (.pv (.int r), St D' R) ∧ (r : Int) < m := by
  rw [call_start G_law_take]
  rcases List.eq_nil_or_concat D with rfl | ⟨D', y, rfl⟩
  · refine ⟨0, [], ?_, hm⟩
    simp (disch := first | omega | (simp only [List.length_map, List.length_append, List.length_cons, List.length_nil, List.length_take, List.length_drop, List.length_reverse, List.length_range', List.length_range] <;> omega) | fail) [runFn, cut_map, cut_to, cut_from, cut_mid, -getElem?_pos, -List.map_take, -List.map_drop, -List.length_flatten, -Prod.exists, tk_map, dr_map, List.getElem?_cons_zero, List.getElem?_cons_succ, i_law_take, rd]
  · have h1 := Int.fmod_nonneg_of_pos y hm
    have h2 := Int.fmod_lt_of_pos y hm
    obtain ⟨r, hr⟩ := Int.eq_ofNat_of_zero_le h1
    refine ⟨r, D', ?_, ?_⟩
    · have hg : ((D'.map PV.int) ++ [PV.int y])[D'.length]? = some (.int y) := by
        rw [List.getElem?_append_right (by simp)]; simp
      simp (disch := first | omega | (simp only [List.length_map, List.length_append, List.length_cons, List.length_nil, List.length_take, List.length_drop, List.length_reverse, List.length_range', List.length_range] <;> omega) | fail) [runFn, cut_map, cut_to, cut_from, cut_mid, -getElem?_pos, -List.map_take, -List.map_drop, -List.length_flatten, -Prod.exists, tk_map, dr_map, List.getElem?_cons_zero, List.getElem?_cons_succ, i_law_take, rd, mutOp, hr, hg, show ¬ ((D'.length : Int) + 1 = 0) by omega]
    · omega
theorem loopC_inv {f : PV → Sto → Out (Option PV × Sto)} {α : Type} (e : α → PV) {all : List PV} (I : Sto → Prop) (Q : PV → Prop) :
    ∀ (xs : List α) (h : ∀ a ∈ xs, ∀ S, I S → ∃ p S', f (e a) S = .ok (some p, S') ∧ I S' ∧ Q p) (S : Sto), I S →
    ∃ r, loopC f none all (xs.map e) S = .ok r ∧ I r.2 ∧ r.1.length = xs.length ∧ ∀ p ∈ r.1, Q p
  | [], _, S, hS => ⟨([], S), by simp [loopC], hS, rfl, by simp⟩
  | a :: xs, h, S, hS => by
    obtain ⟨p, S1, h1, h2, h3⟩ := h a (by simp) S hS
    obtain ⟨r, g1, g2, g3, g4⟩ := loopC_inv (all := all) e I Q xs (fun b hb => h b (by simp [hb])) S1 h2
    refine ⟨(p :: r.1, r.2), ?_, g2, by simp [g3], ?_⟩
    · show loopC f none all (e a :: xs.map e) S = _
      unfold loopC
      rw [if_pos (by simp), h1]
      simp only [ok_bind, g1]
      rfl
    · intro q hq
      rcases List.mem_cons.mp hq with rfl | hq
      · exact h3
      · exact g4 q hq
theorem ints_of {ys : List PV} (h : ∀ p ∈ ys, ∃ i : Int, p = .int i) : ∃ w : List Int, ys = w.map .int := by
  induction ys with
  | nil => exact ⟨[], rfl⟩
  | cons y ys ih =>
    obtain ⟨w, rfl⟩ := ih (fun p hp => h p (by simp [hp]))
    obtain ⟨i, rfl⟩ := h y (by simp)
    exact ⟨i :: w, rfl⟩
theorem opMul_tup (xs : List PV) (k : Int) (h : xs ≠ []) (h1 : 1 ≤ k ∧ k ≤ 1000) (h2 : xs.length ≤ 1000) : op2 .mul (.tup xs) (.int k) = some (.tup (List.replicate k.toNat xs).flatten) := by
  show opMul (.tup xs) (.int k) = _
  simp [opMul, h, h1, h2]
theorem rep_len (w : W) : ∀ k : Nat, (List.replicate k w).flatten.length = k * w.length
  | 0 => by simp
  | k + 1 => by rw [List.replicate_succ, List.flatten_cons, List.length_append, rep_len w k, Nat.succ_mul, Nat.add_comm]
theorem spec_word (k : Nat) (D : List Int) (n : Nat) (hn : n ≤ 100) :
    ∃ (w : W) (D' : List Int), callF G (k + 2) 19 [.loc 0, .pv (.int n)] (St D []) = .ok (.pv (eW w), St D' []) ∧ w.length = n := by
  obtain ⟨s, D1, h1, hs⟩ := spec_take k D [] 4 (by omega)
  obtain ⟨Q, hQ⟩ : ∃ Q : Val × Sto → Prop, Q = fun r => ∃ (w : W) (D' : List Int), r = (.pv (eW w), St D' []) ∧ w.length = n := ⟨_, rfl⟩
  suffices hq : ∃ r, callF G (k + 2) 19 [.loc 0, .pv (.int n)] (St D []) = .ok r ∧ Q r by
    rw [hQ] at hq
    obtain ⟨_, g1, w, D', rfl, g2⟩ := hq
    exact ⟨w, D', g1, g2⟩
  rw [call_start G_law_word]
  rcases (by omega : s = 0 ∨ s = 1 ∨ s = 2 ∨ s = 3) with rfl | rfl | rfl | rfl
  · simp (disch := first | omega | (simp only [List.length_map, List.length_append, List.length_cons, List.length_nil, List.length_take, List.length_drop, List.length_reverse, List.length_range', List.length_range] <;> omega) | fail) [runFn, cut_map, cut_to, cut_from, cut_mid, -getElem?_pos, -List.map_take, -List.map_drop, -List.length_flatten, -Prod.exists, tk_map, dr_map, List.getElem?_cons_zero, List.getElem?_cons_succ, i_law_word, h1, ofNat_range0]
    refine bnd_exx (loopC_inv (e := fun (n : Nat) => .int n) (I := fun S => ∃ D, S = St D []) (Q := fun p => ∃ i : Int, p = .int i) _ ?_ _ ⟨D1, rfl⟩) ?_
    · rintro a _ _ ⟨D, rfl⟩
      obtain ⟨r, D', g1, _⟩ := spec_take k D [] 2 (by omega)
      refine ⟨.int r, St D' [], ?_, ⟨D', rfl⟩, ⟨r, rfl⟩⟩
      simp (disch := first | omega | (simp only [List.length_map, List.length_append, List.length_cons, List.length_nil, List.length_take, List.length_drop, List.length_reverse, List.length_range', List.length_range] <;> omega) | fail) [runFn, cut_map, cut_to, cut_from, cut_mid, -getElem?_pos, -List.map_take, -List.map_drop, -List.length_flatten, -Prod.exists, tk_map, dr_map, List.getElem?_cons_zero, List.getElem?_cons_succ, compBody, g1]
    · rintro ⟨ys, _⟩ ⟨⟨D', rfl⟩, h2, h3⟩
      obtain ⟨w, rfl⟩ := ints_of h3
      simp at h2
      rw [hQ]
      refine ⟨_, ?_, w, D', rfl, h2⟩
      simp (disch := first | omega | (simp only [List.length_map, List.length_append, List.length_cons, List.length_nil, List.length_take, List.length_drop, List.length_reverse, List.length_range', List.length_range] <;> omega) | fail) [runFn, cut_map, cut_to, cut_from, cut_mid, -getElem?_pos, -List.map_take, -List.map_drop, -List.length_flatten, -Prod.exists, tk_map, dr_map, List.getElem?_cons_zero, List.getElem?_cons_succ]
  · obtain ⟨s, D2, h2, hs⟩ := spec_take k D1 [] 2 (by omega)
    simp (disch := first | omega | (simp only [List.length_map, List.length_append, List.length_cons, List.length_nil, List.length_take, List.length_drop, List.length_reverse, List.length_range', List.length_range] <;> omega) | fail) [runFn, cut_map, cut_to, cut_from, cut_mid, -getElem?_pos, -List.map_take, -List.map_drop, -List.length_flatten, -Prod.exists, tk_map, dr_map, List.getElem?_cons_zero, List.getElem?_cons_succ, i_law_word, h1, ofNat_range0, h2]
    refine bnd_exx (loopF_iv (e := fun (n : Nat) => .int n)
      (P := fun r ρ S => ∃ (D : List Int) (letter : Int) (f : W) (v : Option Val), ρ = [some (.loc 0), some (.pv (.int n)), some (.pv (.int 1)), some (.pv (eW f)), some (.pv (.int letter)), v, none] ∧ S = St D [] ∧ f.length + r.length = n) ?_ (List.range n) _ _ ⟨D2, s, [], none, rfl, rfl, by simp⟩) ?_
    · rintro a r _ _ ⟨D, letter, f, v, rfl, rfl, hf⟩
      rw [List.length_cons] at hf
      obtain ⟨t, D', g1, _⟩ := spec_take k D [] 3 (by omega)
      by_cases ht : t = 0
      · subst ht
        refine ⟨_, _, ?_, D', 1 - letter, f ++ [1 - letter], some (.pv (.int a)), rfl, rfl, by simp; omega⟩
        simp (disch := first | omega | (simp only [List.length_map, List.length_append, List.length_cons, List.length_nil, List.length_take, List.length_drop, List.length_reverse, List.length_range', List.length_range] <;> omega) | fail) [runFn, cut_map, cut_to, cut_from, cut_mid, -getElem?_pos, -List.map_take, -List.map_drop, -List.length_flatten, -Prod.exists, tk_map, dr_map, List.getElem?_cons_zero, List.getElem?_cons_succ, forBody, g1]
      · refine ⟨_, _, ?_, D', letter, f ++ [letter], some (.pv (.int a)), rfl, rfl, by simp; omega⟩
        simp (disch := first | omega | (simp only [List.length_map, List.length_append, List.length_cons, List.length_nil, List.length_take, List.length_drop, List.length_reverse, List.length_range', List.length_range] <;> omega) | fail) [runFn, cut_map, cut_to, cut_from, cut_mid, -getElem?_pos, -List.map_take, -List.map_drop, -List.length_flatten, -Prod.exists, tk_map, dr_map, List.getElem?_cons_zero, List.getElem?_cons_succ, forBody, g1, show 0 < t by omega]
    · rintro _ ⟨_, _, rfl, D', letter, f, v, rfl, rfl, hf⟩
      rw [hQ]
      refine ⟨_, ?_, f, D', rfl, by simpa using hf⟩
      simp (disch := first | omega | (simp only [List.length_map, List.length_append, List.length_cons, List.length_nil, List.length_take, List.length_drop, List.length_reverse, List.length_range', List.length_range] <;> omega) | fail) [runFn, cut_map, cut_to, cut_from, cut_mid, -getElem?_pos, -List.map_take, -List.map_drop, -List.length_flatten, -Prod.exists, tk_map, dr_map, List.getElem?_cons_zero, List.getElem?_cons_succ]
  · obtain ⟨s, D2, h2, hs⟩ := spec_take k D1 [] 4 (by omega)
    have hr := ofNat_range0 (1 + s)
    rw [show ((1 + s : Nat) : Int) = 1 + (s : Int) by omega] at hr
    simp (disch := first | omega | (simp only [List.length_map, List.length_append, List.length_cons, List.length_nil, List.length_take, List.length_drop, List.length_reverse, List.length_range', List.length_range] <;> omega) | fail) [runFn, cut_map, cut_to, cut_from, cut_mid, -getElem?_pos, -List.map_take, -List.map_drop, -List.length_flatten, -Prod.exists, tk_map, dr_map, List.getElem?_cons_zero, List.getElem?_cons_succ, i_law_word, h1, ofNat_range0, h2, hr]
    refine bnd_exx (loopC_inv (e := fun (n : Nat) => .int n) (I := fun S => ∃ D, S = St D []) (Q := fun p => ∃ i : Int, p = .int i) _ ?_ _ ⟨D2, rfl⟩) ?_
    · rintro a _ _ ⟨D, rfl⟩
      obtain ⟨r, D', g1, _⟩ := spec_take k D [] 2 (by omega)
      refine ⟨.int r, St D' [], ?_, ⟨D', rfl⟩, ⟨r, rfl⟩⟩
      simp (disch := first | omega | (simp only [List.length_map, List.length_append, List.length_cons, List.length_nil, List.length_take, List.length_drop, List.length_reverse, List.length_range', List.length_range] <;> omega) | fail) [runFn, cut_map, cut_to, cut_from, cut_mid, -getElem?_pos, -List.map_take, -List.map_drop, -List.length_flatten, -Prod.exists, tk_map, dr_map, List.getElem?_cons_zero, List.getElem?_cons_succ, compBody, g1]
    · rintro ⟨ys, _⟩ ⟨⟨D', rfl⟩, h2, h3⟩
      obtain ⟨w, rfl⟩ := ints_of h3
      simp at h2
      have hne : w ≠ [] := by rintro rfl; simp at h2; omega
      have hm := opMul_tup (w.map .int) ((n : Int) + 1) (by simpa using hne) (by omega) (by simp; omega)
      have hmm : (List.replicate ((n : Int) + 1).toNat (w.map PV.int)).flatten = ((List.replicate (n + 1) w).flatten).map .int := by
        rw [show ((n : Int) + 1).toNat = n + 1 by omega, List.map_flatten, List.map_replicate]
      rw [hmm] at hm
      rw [hQ]
      refine ⟨_, ?_, ((List.replicate (n + 1) w).flatten).take n, D', rfl, ?_⟩
      · simp (disch := first | omega | (simp only [List.length_map, List.length_append, List.length_cons, List.length_nil, List.length_take, List.length_drop, List.length_reverse, List.length_range', List.length_range] <;> omega) | fail) [runFn, cut_map, cut_to, cut_from, cut_mid, -getElem?_pos, -List.map_take, -List.map_drop, -List.length_flatten, -Prod.exists, tk_map, dr_map, List.getElem?_cons_zero, List.getElem?_cons_succ, hm]
        rw [List.map_take, List.map_flatten, List.map_replicate]
      · rw [List.length_take, rep_len, h2]
        have : n + 1 ≤ (n + 1) * (1 + s) := Nat.le_mul_of_pos_right _ (by omega)
        omega
  · simp (disch := first | omega | (simp only [List.length_map, List.length_append, List.length_cons, List.length_nil, List.length_take, List.length_drop, List.length_reverse, List.length_range', List.length_range] <;> omega) | fail) [runFn, cut_map, cut_to, cut_from, cut_mid, -getElem?_pos, -List.map_take, -List.map_drop, -List.length_flatten, -Prod.exists, tk_map, dr_map, List.getElem?_cons_zero, List.getElem?_cons_succ, i_law_word, h1, ofNat_range0]
    refine bnd_exx (loopC_inv (e := fun (n : Nat) => .int n) (I := fun S => ∃ D, S = St D []) (Q := fun p => ∃ i : Int, p = .int i) _ ?_ _ ⟨D1, rfl⟩) ?_
    · rintro a _ _ ⟨D, rfl⟩
      obtain ⟨r, D', g1, _⟩ := spec_take k D [] 5 (by omega)
      refine ⟨.int (if (r : Int) == 0 then 1 else 0), St D' [], ?_, ⟨D', rfl⟩, ⟨_, rfl⟩⟩
      simp (disch := first | omega | (simp only [List.length_map, List.length_append, List.length_cons, List.length_nil, List.length_take, List.length_drop, List.length_reverse, List.length_range', List.length_range] <;> omega) | fail) [runFn, cut_map, cut_to, cut_from, cut_mid, -getElem?_pos, -List.map_take, -List.map_drop, -List.length_flatten, -Prod.exists, tk_map, dr_map, List.getElem?_cons_zero, List.getElem?_cons_succ, compBody, g1]
    · rintro ⟨ys, _⟩ ⟨⟨D', rfl⟩, h2, h3⟩
      obtain ⟨w, rfl⟩ := ints_of h3
      simp at h2
      rw [hQ]
      refine ⟨_, ?_, w, D', rfl, h2⟩
      simp (disch := first | omega | (simp only [List.length_map, List.length_append, List.length_cons, List.length_nil, List.length_take, List.length_drop, List.length_reverse, List.length_range', List.length_range] <;> omega) | fail) [runFn, cut_map, cut_to, cut_from, cut_mid, -getElem?_pos, -List.map_take, -List.map_drop, -List.length_flatten, -Prod.exists, tk_map, dr_map, List.getElem?_cons_zero, List.getElem?_cons_succ]
end RS

set_option linter.all false
set_option maxRecDepth 100000
set_option maxHeartbeats 1000000
namespace RS
open PySem (Str)
theorem spec_edit (k : Nat) (D : List Int) (n : Nat) (hn : n ≤ 100) :
    ∃ (a m : Nat) (x : W) (D' : List Int), callF G (k + 2) 23 [.loc 0, .pv (.int n)] (St D []) = .ok (.pv (eE a m x), St D' []) ∧ a + m ≤ n ∧ x.length ≤ 4 := by
  obtain ⟨p, D1, h1, hp⟩ := spec_take k D [] 6 (by omega)
  obtain ⟨a1, D2, h2, ha1⟩ := spec_take k D1 [] ((n : Int) + 1) (by omega)
  obtain ⟨a2, D3, h3, ha2⟩ := spec_take k D2 [] ((n : Int) + 1) (by omega)
  obtain ⟨a3, D4, h4, ha3⟩ := spec_take k D3 [] ((n : Int) + 1) (by omega)
  obtain ⟨at', hat, hle⟩ : ∃ at' : Nat, ([PV.int 0, .int n, .int 0, .int a1, .int a2, .int a3] : List PV)[p]? = some (.int at') ∧ at' ≤ n := by
    rcases (by omega : p = 0 ∨ p = 1 ∨ p = 2 ∨ p = 3 ∨ p = 4 ∨ p = 5) with rfl | rfl | rfl | rfl | rfl | rfl
    · exact ⟨0, rfl, by omega⟩
    · exact ⟨n, rfl, by omega⟩
    · exact ⟨0, rfl, by omega⟩
    · exact ⟨a1, rfl, by omega⟩
    · exact ⟨a2, rfl, by omega⟩
    · exact ⟨a3, rfl, by omega⟩
  obtain ⟨most, hmost⟩ : ∃ most : Nat, min ((n : Int) - at') 5 = most := Int.eq_ofNat_of_zero_le (by omega)
  obtain ⟨b1, D5, h5, hb1⟩ := spec_take k D4 [] ((most : Int) + 1) (by omega)
  obtain ⟨b2, D6, h6, hb2⟩ := spec_take k D5 [] ((most : Int) + 1) (by omega)
  obtain ⟨o, ho, hfit⟩ : ∃ o : Nat, ([PV.int most, .int 0, .int n, .int 0, .int b1, .int b2] : List PV)[p]? = some (.int o) ∧ at' + o ≤ n := by
    rcases (by omega : p = 0 ∨ p = 1 ∨ p = 2 ∨ p = 3 ∨ p = 4 ∨ p = 5) with rfl | rfl | rfl | rfl | rfl | rfl
    · exact ⟨most, rfl, by omega⟩
    · exact ⟨0, rfl, by omega⟩
    · refine ⟨n, rfl, ?_⟩
      have : PV.int 0 = .int at' := by injection hat
      injection this; omega
    · exact ⟨0, rfl, by omega⟩
    · exact ⟨b1, rfl, by omega⟩
    · exact ⟨b2, rfl, by omega⟩
  obtain ⟨t, D7, h7, ht⟩ := spec_take k D6 [] 5 (by omega)
  obtain ⟨Q, hQ⟩ : ∃ Q : Val × Sto → Prop, Q = fun r => ∃ (a m : Nat) (x : W) (D' : List Int), r = (.pv (eE a m x), St D' []) ∧ a + m ≤ n ∧ x.length ≤ 4 := ⟨_, rfl⟩
  suffices hq : ∃ r, callF G (k + 2) 23 [.loc 0, .pv (.int n)] (St D []) = .ok r ∧ Q r by
    rw [hQ] at hq
    obtain ⟨_, g1, a, m, x, D', rfl, g2⟩ := hq
    exact ⟨a, m, x, D', g1, g2⟩
  rw [call_start G_law_edit]
  simp (disch := first | omega | (simp only [List.length_map, List.length_append, List.length_cons, List.length_nil, List.length_take, List.length_drop, List.length_reverse, List.length_range', List.length_range] <;> omega) | fail) [runFn, cut_map, cut_to, cut_from, cut_mid, -getElem?_pos, -List.map_take, -List.map_drop, -List.length_flatten, -Prod.exists, tk_map, dr_map, List.getElem?_cons_zero, List.getElem?_cons_succ, i_law_edit, h1, h2, h3, h4, hat, hmost, h5, h6, ho, h7, ofNat_range0]
  refine bnd_exx (loopC_inv (e := fun (n : Nat) => .int n) (I := fun S => ∃ D, S = St D []) (Q := fun p => ∃ i : Int, p = .int i) _ ?_ _ ⟨D7, rfl⟩) ?_
  · rintro a _ _ ⟨D, rfl⟩
    obtain ⟨r, D', g1, _⟩ := spec_take k D [] 2 (by omega)
    refine ⟨.int r, St D' [], ?_, ⟨D', rfl⟩, ⟨r, rfl⟩⟩
    simp (disch := first | omega | (simp only [List.length_map, List.length_append, List.length_cons, List.length_nil, List.length_take, List.length_drop, List.length_reverse, List.length_range', List.length_range] <;> omega) | fail) [runFn, cut_map, cut_to, cut_from, cut_mid, -getElem?_pos, -List.map_take, -List.map_drop, -List.length_flatten, -Prod.exists, tk_map, dr_map, List.getElem?_cons_zero, List.getElem?_cons_succ, compBody, g1]
  · rintro ⟨ys, _⟩ ⟨⟨D', rfl⟩, h2, h3⟩
    obtain ⟨w, rfl⟩ := ints_of h3
    simp at h2
    rw [hQ]
    refine ⟨_, ?_, at', o, w, D', rfl, hfit, by omega⟩
    simp (disch := first | omega | (simp only [List.length_map, List.length_append, List.length_cons, List.length_nil, List.length_take, List.length_drop, List.length_reverse, List.length_range', List.length_range] <;> omega) | fail) [runFn, cut_map, cut_to, cut_from, cut_mid, -getElem?_pos, -List.map_take, -List.map_drop, -List.length_flatten, -Prod.exists, tk_map, dr_map, List.getElem?_cons_zero, List.getElem?_cons_succ]
theorem era_map {α β : Type} (f : α → β) : ∀ (l : List α) (i : Nat), (l.map f).eraseIdx i = (l.eraseIdx i).map f
  | [], _ => rfl
  | _ :: _, 0 => rfl
  | x :: l, i + 1 => by simp [era_map f l i]
theorem spec_mixed (k : Nat) (D : List Int) (row : List W) (hn : row.length ≤ 100) :
    ∃ (ρ : List W) (D' : List Int), callF G (k + 2) 16 [.loc 0, .pv (.lst (row.map eW))] (St D []) = .ok (.pv (eC ρ), St D' []) ∧ ρ.length = row.length ∧ ∀ w ∈ ρ, w ∈ row := by
  obtain ⟨Q, hQ⟩ : ∃ Q : Val × Sto → Prop, Q = fun r => ∃ (ρ : List W) (D' : List Int), r = (.pv (eC ρ), St D' []) ∧ ρ.length = row.length ∧ ∀ w ∈ ρ, w ∈ row := ⟨_, rfl⟩
  suffices hq : ∃ r, callF G (k + 2) 16 [.loc 0, .pv (.lst (row.map eW))] (St D []) = .ok r ∧ Q r by
    rw [hQ] at hq
    obtain ⟨_, g1, ρ, D', rfl, g2⟩ := hq
    exact ⟨ρ, D', g1, g2⟩
  rw [call_start G_law_mixed]
  simp (disch := first | omega | (simp only [List.length_map, List.length_append, List.length_cons, List.length_nil, List.length_take, List.length_drop, List.length_reverse, List.length_range', List.length_range] <;> omega) | fail) [runFn, cut_map, cut_to, cut_from, cut_mid, -getElem?_pos, -List.map_take, -List.map_drop, -List.length_flatten, -Prod.exists, tk_map, dr_map, List.getElem?_cons_zero, List.getElem?_cons_succ, i_law_mixed, ofNat_range0]
  refine bnd_exx (loopF_iv (e := fun (n : Nat) => .int n)
      (P := fun r ρ S => ∃ (D : List Int) (left found : List W) (v : Option Val), ρ = [some (.loc 0), some (.pv (.lst (row.map eW))), some (.loc 1), some (.loc 2), v] ∧ S = St D [.lst (left.map eW), .lst (found.map eW)] ∧
        left.length = r.length ∧ found.length + r.length = row.length ∧ (∀ w ∈ left, w ∈ row) ∧ ∀ w ∈ found, w ∈ row) ?_ (List.range row.length) _ _ ⟨D, row, [], none, rfl, rfl, by simp, by simp, fun w h => h, by simp⟩) ?_
  · rintro a r _ _ ⟨D, left, found, v, rfl, rfl, e1, e2, e3, e4⟩
    rw [List.length_cons] at e1 e2
    obtain ⟨t, D', g1, gt⟩ := spec_take k D [.lst (left.map eW), .lst (found.map eW)] left.length (by omega)
    obtain ⟨y, hy⟩ : ∃ y, left[t]? = some y := ⟨left[t]'(by omega), by simp⟩
    have hyl : y ∈ left := List.mem_of_getElem? hy
    refine ⟨_, _, ?_, D', left.eraseIdx t, found ++ [y], some (.pv (.int a)), rfl, rfl, ?_, ?_, ?_, ?_⟩
    · simp (disch := first | omega | (simp only [List.length_map, List.length_append, List.length_cons, List.length_nil, List.length_take, List.length_drop, List.length_reverse, List.length_range', List.length_range] <;> omega) | fail) [runFn, cut_map, cut_to, cut_from, cut_mid, -getElem?_pos, -List.map_take, -List.map_drop, -List.length_flatten, -Prod.exists, tk_map, dr_map, List.getElem?_cons_zero, List.getElem?_cons_succ, forBody, rd, g1, mutOp, hy, show (t : Int) < 4611686018427387904 by omega, era_map]
    · rw [List.length_eraseIdx]; split <;> omega
    · simp; omega
    · intro w hw
      exact e3 w (List.mem_of_mem_eraseIdx hw)
    · intro w hw
      rcases List.mem_append.mp hw with hw | hw
      · exact e4 w hw
      · simp at hw; rw [hw]; exact e3 y hyl
  · rintro _ ⟨_, _, rfl, D', left, found, v, rfl, rfl, e1, e2, e3, e4⟩
    rw [hQ]
    refine ⟨_, ?_, found, D', rfl, by simpa using e2, e4⟩
    simp (disch := first | omega | (simp only [List.length_map, List.length_append, List.length_cons, List.length_nil, List.length_take, List.length_drop, List.length_reverse, List.length_range', List.length_range] <;> omega) | fail) [runFn, cut_map, cut_to, cut_from, cut_mid, -getElem?_pos, -List.map_take, -List.map_drop, -List.length_flatten, -Prod.exists, tk_map, dr_map, List.getElem?_cons_zero, List.getElem?_cons_succ, rd]
theorem spec_joined (k : Nat) (ws : List W) (S : Sto) (hf : ws.flatten.length ≤ 1000) :
    callF G (k + 1) 24 [.pv (eC ws)] S = .ok (.pv (eW ws.flatten), S) := by
  rw [call_start G_law_joined]
  simp (disch := first | omega | (simp only [List.length_map, List.length_append, List.length_cons, List.length_nil, List.length_take, List.length_drop, List.length_reverse, List.length_range', List.length_range] <;> omega) | fail) [runFn, cut_map, cut_to, cut_from, cut_mid, -getElem?_pos, -List.map_take, -List.map_drop, -List.length_flatten, -Prod.exists, tk_map, dr_map, List.getElem?_cons_zero, List.getElem?_cons_succ, i_law_joined]
  refine bnd_of (loopF_fold (e := eW) (β := Option Val × W)
    (st := fun b => [some (.pv (eC ws)), some (.pv (eW b.2)), b.1])
    (g := fun b w => (some (.pv (eW w)), b.2 ++ w))
    (ok := fun r b => b.2.length + r.flatten.length ≤ 1000) ?_ _ (none, []) (by simp only [List.length_nil, Nat.zero_add]; exact hf)) ?_
  · intro w r b hb
    rw [List.flatten_cons, List.length_append] at hb
    refine ⟨?_, (by first | omega | (simp only [List.length_map, List.length_append, List.length_cons, List.length_nil, List.length_take, List.length_drop, List.length_reverse, List.length_range', List.length_range] <;> omega))⟩
    simp (disch := first | omega | (simp only [List.length_map, List.length_append, List.length_cons, List.length_nil, List.length_take, List.length_drop, List.length_reverse, List.length_range', List.length_range] <;> omega) | fail) [runFn, cut_map, cut_to, cut_from, cut_mid, -getElem?_pos, -List.map_take, -List.map_drop, -List.length_flatten, -Prod.exists, tk_map, dr_map, List.getElem?_cons_zero, List.getElem?_cons_succ, forBody]
  simp (disch := first | omega | (simp only [List.length_map, List.length_append, List.length_cons, List.length_nil, List.length_take, List.length_drop, List.length_reverse, List.length_range', List.length_range] <;> omega) | fail) [runFn, cut_map, cut_to, cut_from, cut_mid, -getElem?_pos, -List.map_take, -List.map_drop, -List.length_flatten, -Prod.exists, tk_map, dr_map, List.getElem?_cons_zero, List.getElem?_cons_succ, fold_join]
/-- plain data: numbers and rows -/
inductive Dat : Nat → PV → Prop where
  | int (d : Nat) (i : Int) : Dat d (.int i)
  | tup {d : Nat} {xs : List PV} (h : xs.length ≤ 1000) (hx : ∀ x ∈ xs, Dat d x) : Dat (d + 1) (.tup xs)
theorem loopF_go {f : PV → Env → Sto → Out (Flow × Env × Sto)} {α : Type} (e : α → PV) {all : List PV} {S : Sto} (st : Option Val → Env) (g : α → Option Val) :
    ∀ (xs : List α) (v : Option Val) (step : ∀ a ∈ xs, ∀ v, f (e a) (st v) S = .ok (.nx, st (g a), S)), ∃ r, loopF f none all (xs.map e) (st v) S = .ok r ∧ ∃ v', r = (.nx, st v', S)
  | [], v, _ => ⟨_, by simp [loopF], v, rfl⟩
  | a :: xs, v, h => by
    obtain ⟨r, h1, h2⟩ := loopF_go (all := all) (S := S) e st g xs (g a) (fun b hb => h b (by simp [hb]))
    refine ⟨r, ?_, h2⟩
    show loopF f none all (e a :: xs.map e) (st v) S = _
    unfold loopF
    rw [if_pos (by simp), h a (by simp) v]
    simp only [ok_bind, h1]
theorem spec_same (d : Nat) : ∀ (k : Nat) (p : PV) (S : Sto), Dat d p → callF G (k + d + 1) 15 [.pv p, .pv p] S = .ok (.pv (.bl true), S) := by
  induction d with
  | zero =>
    intro k p S h
    cases h with
    | int _ i =>
      rw [call_start G_law_same]
      simp (disch := first | omega | (simp only [List.length_map, List.length_append, List.length_cons, List.length_nil, List.length_take, List.length_drop, List.length_reverse, List.length_range', List.length_range] <;> omega) | fail) [runFn, cut_map, cut_to, cut_from, cut_mid, -getElem?_pos, -List.map_take, -List.map_drop, -List.length_flatten, -Prod.exists, tk_map, dr_map, List.getElem?_cons_zero, List.getElem?_cons_succ, i_law_same]
  | succ d ih =>
    intro k p S h
    cases h with
    | int _ i =>
      rw [call_start G_law_same]
      simp (disch := first | omega | (simp only [List.length_map, List.length_append, List.length_cons, List.length_nil, List.length_take, List.length_drop, List.length_reverse, List.length_range', List.length_range] <;> omega) | fail) [runFn, cut_map, cut_to, cut_from, cut_mid, -getElem?_pos, -List.map_take, -List.map_drop, -List.length_flatten, -Prod.exists, tk_map, dr_map, List.getElem?_cons_zero, List.getElem?_cons_succ, i_law_same]
    | @tup _ xs hl hx =>
      rw [call_start G_law_same]
      simp (disch := first | omega | (simp only [List.length_map, List.length_append, List.length_cons, List.length_nil, List.length_take, List.length_drop, List.length_reverse, List.length_range', List.length_range] <;> omega) | fail) [runFn, cut_map, cut_to, cut_from, cut_mid, -getElem?_pos, -List.map_take, -List.map_drop, -List.length_flatten, -Prod.exists, tk_map, dr_map, List.getElem?_cons_zero, List.getElem?_cons_succ, i_law_same, ofNat_range0]
      refine bnd_ex (loopF_go (e := fun (n : Nat) => .int n) (st := fun v => [some (.pv (.tup xs)), some (.pv (.tup xs)), v]) (g := fun n => some (.pv (.int n))) _ none ?_) ?_
      · intro n hn v
        rw [List.mem_range] at hn
        obtain ⟨y, hy⟩ : ∃ y, xs[n]? = some y := ⟨xs[n], by simp [hn]⟩
        have hs := ih k y S (hx y (List.mem_of_getElem? hy))
        simp (disch := first | omega | (simp only [List.length_map, List.length_append, List.length_cons, List.length_nil, List.length_take, List.length_drop, List.length_reverse, List.length_range', List.length_range] <;> omega) | fail) [runFn, cut_map, cut_to, cut_from, cut_mid, -getElem?_pos, -List.map_take, -List.map_drop, -List.length_flatten, -Prod.exists, tk_map, dr_map, List.getElem?_cons_zero, List.getElem?_cons_succ, forBody, hy]
        rw [show k + (d + 1) = k + d + 1 from rfl, hs]
        simp (disch := first | omega | (simp only [List.length_map, List.length_append, List.length_cons, List.length_nil, List.length_take, List.length_drop, List.length_reverse, List.length_range', List.length_range] <;> omega) | fail) [runFn, cut_map, cut_to, cut_from, cut_mid, -getElem?_pos, -List.map_take, -List.map_drop, -List.length_flatten, -Prod.exists, tk_map, dr_map, List.getElem?_cons_zero, List.getElem?_cons_succ]
      · rintro _ ⟨v, rfl⟩
        simp (disch := first | omega | (simp only [List.length_map, List.length_append, List.length_cons, List.length_nil, List.length_take, List.length_drop, List.length_reverse, List.length_range', List.length_range] <;> omega) | fail) [runFn, cut_map, cut_to, cut_from, cut_mid, -getElem?_pos, -List.map_take, -List.map_drop, -List.length_flatten, -Prod.exists, tk_map, dr_map, List.getElem?_cons_zero, List.getElem?_cons_succ]
theorem Dat_map {α : Type} {d : Nat} {e : α → PV} {l : List α} (h : l.length ≤ 1000) (hx : ∀ a ∈ l, Dat d (e a)) : Dat (d + 1) (.tup (l.map e)) := by
  refine .tup (by simpa using h) ?_
  intro x hx'
  obtain ⟨a, ha, rfl⟩ := List.mem_map.mp hx'
  exact hx a ha
theorem Dat_up {d : Nat} {p : PV} (h : Dat d p) : Dat (d + 1) p := by
  induction h with
  | int d i => exact .int _ i
  | tup h _ ih => exact .tup h ih
theorem Dat_eW {w : W} (h : w.length ≤ 1000) : Dat 1 (eW w) := Dat_map h (fun i _ => .int 0 i)
theorem Dat_eC {l : List W} (h : l.length ≤ 1000) (h2 : l.flatten.length ≤ 1000) : Dat 2 (eC l) := by
  refine Dat_map h ?_
  intro w hw
  apply Dat_eW
  have : w.length ≤ l.flatten.length := by
    obtain ⟨s, t, rfl⟩ := List.append_of_mem hw
    rw [List.flatten_append, List.flatten_cons, List.length_append, List.length_append]; omega
  omega
theorem Dat_cut {w : W} (h : w.length ≤ 1000) : Dat 2 (eCut w) := by
  have := lc_len w
  exact Dat_eC (by omega) (by rw [lc_flat]; exact h)
theorem mul_a (c : Int) : op2 .mul (.int c) (.int 48271) = some (.int (c * 48271)) := op2_mul_int _ _ (by simp [big])
theorem mul_b (c : Int) : op2 .mul (.int c) (.int 69621) = some (.int (c * 69621)) := op2_mul_int _ _ (by simp [big])
theorem mul_c (c : Int) : op2 .mul (.int 3) (.int c) = some (.int (3 * c)) := op2_mul_int _ _ (by simp [big])
theorem mul_d (c : Int) (h : 0 ≤ c ∧ c < 2147483647) : op2 .mul (.int c) (.int c) = some (.int (c * c)) := op2_mul_int _ _ (by simp [big]; omega)
theorem pow_a : op2 .pow (.int 10) (.int 18) = some (.int 1000000000000000000) := by
  show (if 0 ≤ (18 : Int) ∧ (18 : Int) ≤ 1000000 ∧ (10 : Int).natAbs < 2 ^ 64 then some (PV.int ((10 : Int) ^ (18 : Int).toNat)) else none) = _
  rw [if_pos (by decide)]; rfl
theorem fdiv_a (c : Int) : op2 .fdiv (.int c) (.int 1000) = some (.int (c.fdiv 1000)) := by
  show (if (1000 : Int) ≠ 0 ∧ (1000 : Int).natAbs < 1073741824 then some (PV.int (c.fdiv 1000)) else none) = _
  rw [if_pos (by decide)]
theorem spec_draws (k : Nat) (ns : List Int) (hn : ns.length ≤ 63) :
    ∃ D : List Int, callF G (k + 1) 13 [.pv (.scr ns), .pv (.int 470)] [] = .ok (.new (.lst (D.map .int)), []) := by
  obtain ⟨Q, hQ⟩ : ∃ Q : Val × Sto → Prop, Q = fun r => ∃ D : List Int, r = (.new (.lst (D.map .int)), []) := ⟨_, rfl⟩
  suffices hq : ∃ r, callF G (k + 1) 13 [.pv (.scr ns), .pv (.int 470)] [] = .ok r ∧ Q r by
    rw [hQ] at hq
    obtain ⟨_, g1, D, rfl⟩ := hq
    exact ⟨D, g1⟩
  rw [call_start G_law_draws]
  simp (disch := first | omega | (simp only [List.length_map, List.length_append, List.length_cons, List.length_nil, List.length_take, List.length_drop, List.length_reverse, List.length_range', List.length_range] <;> omega) | fail) [runFn, cut_map, cut_to, cut_from, cut_mid, -getElem?_pos, -List.map_take, -List.map_drop, -List.length_flatten, -Prod.exists, tk_map, dr_map, List.getElem?_cons_zero, List.getElem?_cons_succ, i_law_draws]
  refine bnd_exx ⟨_, loopC_all (e := PV.int) (g := fun x => .int x) ns ?_, rfl⟩ ?_
  · intro x _
    simp (disch := first | omega | (simp only [List.length_map, List.length_append, List.length_cons, List.length_nil, List.length_take, List.length_drop, List.length_reverse, List.length_range', List.length_range] <;> omega) | fail) [runFn, cut_map, cut_to, cut_from, cut_mid, -getElem?_pos, -List.map_take, -List.map_drop, -List.length_flatten, -Prod.exists, tk_map, dr_map, List.getElem?_cons_zero, List.getElem?_cons_succ, compBody]
  · rintro _ rfl
    simp (disch := first | omega | (simp only [List.length_map, List.length_append, List.length_cons, List.length_nil, List.length_take, List.length_drop, List.length_reverse, List.length_range', List.length_range] <;> omega) | fail) [runFn, cut_map, cut_to, cut_from, cut_mid, -getElem?_pos, -List.map_take, -List.map_drop, -List.length_flatten, -Prod.exists, tk_map, dr_map, List.getElem?_cons_zero, List.getElem?_cons_succ, rd]
    refine bnd_exx (Q := fun r => ∃ C : List Int, C ≠ [] ∧ C.length ≤ 63 ∧ r = (.nx, [some (.pv (.scr ns)), some (.pv (.int 470)), some (.loc 0), none, none, none, none, none, none], [.lst (C.map .int)])) ?_ ?_
    · by_cases h0 : ns = []
      · subst h0
        refine ⟨_, ?_, [0], by simp, by simp, rfl⟩
        simp (disch := first | omega | (simp only [List.length_map, List.length_append, List.length_cons, List.length_nil, List.length_take, List.length_drop, List.length_reverse, List.length_range', List.length_range] <;> omega) | fail) [runFn, cut_map, cut_to, cut_from, cut_mid, -getElem?_pos, -List.map_take, -List.map_drop, -List.length_flatten, -Prod.exists, tk_map, dr_map, List.getElem?_cons_zero, List.getElem?_cons_succ, mutOp]
      · refine ⟨_, ?_, ns, h0, hn, rfl⟩
        simp (disch := first | omega | (simp only [List.length_map, List.length_append, List.length_cons, List.length_nil, List.length_take, List.length_drop, List.length_reverse, List.length_range', List.length_range] <;> omega) | fail) [runFn, cut_map, cut_to, cut_from, cut_mid, -getElem?_pos, -List.map_take, -List.map_drop, -List.length_flatten, -Prod.exists, tk_map, dr_map, List.getElem?_cons_zero, List.getElem?_cons_succ, h0]
    · rintro _ ⟨C, hC, hCl, rfl⟩
      have hC0 : 0 < C.length := by cases C <;> simp_all
      simp (disch := first | omega | (simp only [List.length_map, List.length_append, List.length_cons, List.length_nil, List.length_take, List.length_drop, List.length_reverse, List.length_range', List.length_range] <;> omega) | fail) [runFn, cut_map, cut_to, cut_from, cut_mid, -getElem?_pos, -List.map_take, -List.map_drop, -List.length_flatten, -Prod.exists, tk_map, dr_map, List.getElem?_cons_zero, List.getElem?_cons_succ, rd]
      refine bnd_exx (loopF_iv (e := PV.int)
        (P := fun r ρ S => ∃ (R D : List Int) (v5 v6 v8 : Option Val), ρ = [some (.pv (.scr ns)), some (.pv (.int 470)), some (.loc 0), some (.loc 1), some (.loc 2), v5, v6, none, v8] ∧ S = [.lst (C.map .int), .lst (R.map .int), .lst (D.map .int)] ∧ R.length = C.length ∧ D.length + r.length ≤ 470) ?_ _ _ _ ⟨C, [], none, none, none, rfl, rfl, rfl, by simp [rangeI]⟩) ?_
      · rintro a r _ _ ⟨R, D, v5, v6, v8, rfl, rfl, e1, e2⟩
        rw [List.length_cons] at e2
        have h1 := Int.fmod_nonneg_of_pos a (show (0 : Int) < C.length by omega)
        have h2 := Int.fmod_lt_of_pos a (show (0 : Int) < C.length by omega)
        obtain ⟨i, hi⟩ := Int.eq_ofNat_of_zero_le h1
        obtain ⟨c, hc⟩ : ∃ c, C[i]? = some c := ⟨C[i]'(by omega), by simp⟩
        obtain ⟨q, hq⟩ : ∃ q, R[i]? = some q := ⟨R[i]'(by omega), by simp⟩
        by_cases hb : 1000000000000000000 ≤ c ∧ 0 < q
        · refine ⟨_, _, ?_, R.set i (q.fdiv 1000), D ++ [q.fmod 1000], some (.pv (.int a)), some (.pv (.int i)), v8, rfl, rfl, by simpa using e1, by simp; omega⟩
          simp (disch := first | omega | (simp only [List.length_map, List.length_append, List.length_cons, List.length_nil, List.length_take, List.length_drop, List.length_reverse, List.length_range', List.length_range] <;> omega) | fail) [runFn, cut_map, cut_to, cut_from, cut_mid, -getElem?_pos, -List.map_take, -List.map_drop, -List.length_flatten, -Prod.exists, tk_map, dr_map, List.getElem?_cons_zero, List.getElem?_cons_succ, forBody, rd, hi, hc, hq, pow_a, fdiv_a, hb, mutOp, show i < R.length by omega]
        · have g1 := Int.fmod_nonneg_of_pos (c * 48271 + a * 69621 + 11) (show (0 : Int) < 2147483647 by omega)
          have g2 := Int.fmod_lt_of_pos (c * 48271 + a * 69621 + 11) (show (0 : Int) < 2147483647 by omega)
          generalize hO : (c * 48271 + a * 69621 + 11).fmod 2147483647 = o at g1 g2
          refine ⟨_, _, ?_, R, D ++ [(o * o + 3 * o + a).fmod 1000003], some (.pv (.int a)), some (.pv (.int i)), some (.pv (.int o)), rfl, rfl, e1, by simp; omega⟩
          have hm := mul_d o ⟨g1, g2⟩
          by_cases hc1 : 1000000000000000000 ≤ c
          · simp (disch := first | omega | (simp only [List.length_map, List.length_append, List.length_cons, List.length_nil, List.length_take, List.length_drop, List.length_reverse, List.length_range', List.length_range] <;> omega) | fail) [runFn, cut_map, cut_to, cut_from, cut_mid, -getElem?_pos, -List.map_take, -List.map_drop, -List.length_flatten, -Prod.exists, tk_map, dr_map, List.getElem?_cons_zero, List.getElem?_cons_succ, forBody, rd, hi, hc, hq, pow_a, hc1, show ¬ 0 < q by omega, mutOp, mul_a, mul_b, mul_c, hO, hm]
          · simp (disch := first | omega | (simp only [List.length_map, List.length_append, List.length_cons, List.length_nil, List.length_take, List.length_drop, List.length_reverse, List.length_range', List.length_range] <;> omega) | fail) [runFn, cut_map, cut_to, cut_from, cut_mid, -getElem?_pos, -List.map_take, -List.map_drop, -List.length_flatten, -Prod.exists, tk_map, dr_map, List.getElem?_cons_zero, List.getElem?_cons_succ, forBody, rd, hi, hc, hq, pow_a, hc1, mutOp, mul_a, mul_b, mul_c, hO, hm]
      · rintro _ ⟨_, _, rfl, R, D, v5, v6, v8, rfl, rfl, e1, e2⟩
        rw [hQ]
        refine ⟨_, ?_, D.reverse, rfl⟩
        simp (disch := first | omega | (simp only [List.length_map, List.length_append, List.length_cons, List.length_nil, List.length_take, List.length_drop, List.length_reverse, List.length_range', List.length_range] <;> omega) | fail) [runFn, cut_map, cut_to, cut_from, cut_mid, -getElem?_pos, -List.map_take, -List.map_drop, -List.length_flatten, -Prod.exists, tk_map, dr_map, List.getElem?_cons_zero, List.getElem?_cons_succ, rd, mutOp, handed]
end RS

set_option linter.all false
set_option maxRecDepth 100000
set_option maxHeartbeats 1000000
namespace RS
open PySem (Str)
@[reducible] def ePl (x : Nat × Nat × W) : PV := .tup [.int x.1, .int x.2.1]
def plk (ws : List W) (k : Nat) : Nat × Nat × W := (pl 0 ws).getD k (0, 0, [])
theorem pl_len (s : Nat) (ws : List W) : (pl s ws).length = ws.length := by
  have := congrArg List.length (pl_w s ws)
  simpa using this
theorem plk_get (ws : List W) (k : Nat) (h : k < ws.length) : (pl 0 ws)[k]? = some (plk ws k) := by
  have := pl_len 0 ws
  simp [plk, List.getD, this, h]
theorem plk_w (ws : List W) (k : Nat) (h : k < ws.length) : ws[k]? = some (plk ws k).2.2 := by
  have h1 := plk_get ws k h
  have h2 := pl_w 0 ws
  conv => lhs; rw [← h2]
  rw [List.getElem?_map, h1]; rfl
theorem map_plk (ws : List W) : (List.range ws.length).map (plk ws) = pl 0 ws := by
  have hl := pl_len 0 ws
  apply List.ext_getElem
  · simp [hl]
  · intro i h1 h2
    simp at h1
    have := plk_get ws i h1
    rw [List.getElem?_eq_getElem h2] at this
    injection this with this
    simp [this]
theorem flt_plk (ws : List W) (p : Nat × Nat × W → Bool) : ((List.range ws.length).filter (fun k => p (plk ws k))).map (fun k => eW (plk ws k).2.2) = (wds ((pl 0 ws).filter p)).map eW := by
  rw [← map_plk, List.filter_map, wds, List.map_map, List.map_map]
  rfl
theorem spec_law_pieces (k : Nat) (ws : List W) (x : W) (a m : Nat) (S : Sto) (h : ws.length ≤ 200) (hf : ws.flatten.length ≤ 200) (hx : x.length ≤ 100) (hm : a + m ≤ ws.flatten.length) :
    callF G (k + 2) 22 [.pv (eC ws), .pv (eE a m x)] S = .ok (.pv (.tup [.int (nA ws a), .int (nB ws a m), eC (pcs ws a m x)]), S) := by
  obtain ⟨A, M, B, e, hA, hB, h3, h4, f1, f2⟩ := parts ws a m hm
  rw [call_start G_law_pieces]
  simp (disch := first | omega | (simp only [List.length_map, List.length_append, List.length_cons, List.length_nil, List.length_take, List.length_drop, List.length_reverse, List.length_range', List.length_range] <;> omega) | fail) [runFn, cut_map, cut_to, cut_from, cut_mid, -getElem?_pos, -List.map_take, -List.map_drop, -List.length_flatten, -Prod.exists, tk_map, dr_map, List.getElem?_cons_zero, List.getElem?_cons_succ, i_law_pieces]
  refine bnd_ex (loopF_iv (e := eW)
      (P := fun r ρ S' => ∃ (P : List (Nat × Nat × W)) (s : Nat) (v : Option Val), ρ = [some (.pv (eC ws)), some (.pv (eE a m x)), v, some (.pv (.lst [])), some (.pv (.lst [])), none, none, none, some (.pv (.int s)), some (.loc S.length), none, none, none, none] ∧ S' = S ++ [.lst (P.map ePl)] ∧ P ++ pl s r = pl 0 ws) ?_ ws _ _ ⟨[], 0, none, rfl, rfl, rfl⟩) ?_
  · rintro w r _ _ ⟨P, s, v, rfl, rfl, e1⟩
    have hl := congrArg List.length e1
    rw [List.length_append, pl_len, pl_len, List.length_cons] at hl
    refine ⟨_, _, ?_, P ++ [(s, s + w.length, w)], s + w.length, some (.pv (eW w)), rfl, rfl, by rw [← e1, List.append_assoc]; rfl⟩
    simp (disch := first | omega | (simp only [List.length_map, List.length_append, List.length_cons, List.length_nil, List.length_take, List.length_drop, List.length_reverse, List.length_range', List.length_range] <;> omega) | fail) [runFn, cut_map, cut_to, cut_from, cut_mid, -getElem?_pos, -List.map_take, -List.map_drop, -List.length_flatten, -Prod.exists, tk_map, dr_map, List.getElem?_cons_zero, List.getElem?_cons_succ, forBody]
  · rintro _ ⟨_, _, rfl, P, s, v, rfl, rfl, e1⟩
    have e2 : P = pl 0 ws := by rw [← e1]; simp [pl]
    subst e2
    simp (disch := first | omega | (simp only [List.length_map, List.length_append, List.length_cons, List.length_nil, List.length_take, List.length_drop, List.length_reverse, List.length_range', List.length_range] <;> omega) | fail) [runFn, cut_map, cut_to, cut_from, cut_mid, -getElem?_pos, -List.map_take, -List.map_drop, -List.length_flatten, -Prod.exists, tk_map, dr_map, List.getElem?_cons_zero, List.getElem?_cons_succ, ofNat_range0]
    refine bnd_of (loopC_flt (e := fun (n : Nat) => .int n) (q := fun n => decide ((plk ws n).2.1 ≤ a)) (g := fun n => eW (plk ws n).2.2) (List.range ws.length) ?_) ?_
    · intro n hn
      rw [List.mem_range] at hn
      have q1 := plk_get ws n hn
      have q2 := plk_w ws n hn
      by_cases hc : (plk ws n).2.1 ≤ a
      · simp (disch := first | omega | (simp only [List.length_map, List.length_append, List.length_cons, List.length_nil, List.length_take, List.length_drop, List.length_reverse, List.length_range', List.length_range] <;> omega) | fail) [runFn, cut_map, cut_to, cut_from, cut_mid, -getElem?_pos, -List.map_take, -List.map_drop, -List.length_flatten, -Prod.exists, tk_map, dr_map, List.getElem?_cons_zero, List.getElem?_cons_succ, compBody, q1, q2, hc]
      · simp (disch := first | omega | (simp only [List.length_map, List.length_append, List.length_cons, List.length_nil, List.length_take, List.length_drop, List.length_reverse, List.length_range', List.length_range] <;> omega) | fail) [runFn, cut_map, cut_to, cut_from, cut_mid, -getElem?_pos, -List.map_take, -List.map_drop, -List.length_flatten, -Prod.exists, tk_map, dr_map, List.getElem?_cons_zero, List.getElem?_cons_succ, compBody, q1, q2, hc]
    simp (disch := first | omega | (simp only [List.length_map, List.length_append, List.length_cons, List.length_nil, List.length_take, List.length_drop, List.length_reverse, List.length_range', List.length_range] <;> omega) | fail) [runFn, cut_map, cut_to, cut_from, cut_mid, -getElem?_pos, -List.map_take, -List.map_drop, -List.length_flatten, -Prod.exists, tk_map, dr_map, List.getElem?_cons_zero, List.getElem?_cons_succ, flt_plk ws (fun x => decide (x.2.1 ≤ a)), f1]
    have hlen := congrArg List.length e
    rw [List.length_append, List.length_append] at hlen
    have hfl : ws.flatten = A.flatten ++ M.flatten ++ B.flatten := by rw [e, List.flatten_append, List.flatten_append]
    have hfll := congrArg List.length hfl
    rw [List.length_append, List.length_append] at hfll
    simp (disch := first | omega | (simp only [List.length_map, List.length_append, List.length_cons, List.length_nil, List.length_take, List.length_drop, List.length_reverse, List.length_range', List.length_range] <;> omega) | fail) [runFn, cut_map, cut_to, cut_from, cut_mid, -getElem?_pos, -List.map_take, -List.map_drop, -List.length_flatten, -Prod.exists, tk_map, dr_map, List.getElem?_cons_zero, List.getElem?_cons_succ, ofNat_range0]
    refine bnd_of (loopC_flt (e := fun (n : Nat) => .int n) (q := fun n => decide (a < (plk ws n).2.1) && decide (a + m ≤ (plk ws n).1)) (g := fun n => eW (plk ws n).2.2) (List.range ws.length) ?_) ?_
    · intro n hn
      rw [List.mem_range] at hn
      have q1 := plk_get ws n hn
      have q2 := plk_w ws n hn
      by_cases hc : a < (plk ws n).2.1
      · by_cases hc2 : a + m ≤ (plk ws n).1
        · simp (disch := first | omega | (simp only [List.length_map, List.length_append, List.length_cons, List.length_nil, List.length_take, List.length_drop, List.length_reverse, List.length_range', List.length_range] <;> omega) | fail) [runFn, cut_map, cut_to, cut_from, cut_mid, -getElem?_pos, -List.map_take, -List.map_drop, -List.length_flatten, -Prod.exists, tk_map, dr_map, List.getElem?_cons_zero, List.getElem?_cons_succ, compBody, q1, q2, hc, hc2, show (a : Int) + m ≤ (plk ws n).1 by omega]
        · simp (disch := first | omega | (simp only [List.length_map, List.length_append, List.length_cons, List.length_nil, List.length_take, List.length_drop, List.length_reverse, List.length_range', List.length_range] <;> omega) | fail) [runFn, cut_map, cut_to, cut_from, cut_mid, -getElem?_pos, -List.map_take, -List.map_drop, -List.length_flatten, -Prod.exists, tk_map, dr_map, List.getElem?_cons_zero, List.getElem?_cons_succ, compBody, q1, q2, hc, hc2, show ¬ (a : Int) + m ≤ (plk ws n).1 by omega]
      · simp (disch := first | omega | (simp only [List.length_map, List.length_append, List.length_cons, List.length_nil, List.length_take, List.length_drop, List.length_reverse, List.length_range', List.length_range] <;> omega) | fail) [runFn, cut_map, cut_to, cut_from, cut_mid, -getElem?_pos, -List.map_take, -List.map_drop, -List.length_flatten, -Prod.exists, tk_map, dr_map, List.getElem?_cons_zero, List.getElem?_cons_succ, compBody, q1, q2, hc]
    simp (disch := first | omega | (simp only [List.length_map, List.length_append, List.length_cons, List.length_nil, List.length_take, List.length_drop, List.length_reverse, List.length_range', List.length_range] <;> omega) | fail) [runFn, cut_map, cut_to, cut_from, cut_mid, -getElem?_pos, -List.map_take, -List.map_drop, -List.length_flatten, -Prod.exists, tk_map, dr_map, List.getElem?_cons_zero, List.getElem?_cons_succ, flt_plk ws (fun x => decide (a < x.2.1) && decide (a + m ≤ x.1)), f2]
    refine bnd_of (loopF_fold (e := eW) (β := Option Val × W)
      (st := fun b => [some (.pv (eC ws)), some (.pv (eE a m x)), some (.pv (eW b.2)), some (.pv (.lst (A.map eW))), some (.pv (.lst (B.map eW))), b.1, none, none, some (.pv (.int s)), some (.loc S.length), none, none, none, none])
      (g := fun b w => (some (.pv (eW w)), b.2 ++ w))
      (ok := fun r b => b.2.length + r.flatten.length ≤ 1000) ?_ _ (none, []) (by simp only [List.length_nil, Nat.zero_add]; omega)) ?_
    · intro w r b hb
      rw [List.flatten_cons, List.length_append] at hb
      refine ⟨?_, (by first | omega | (simp only [List.length_map, List.length_append, List.length_cons, List.length_nil, List.length_take, List.length_drop, List.length_reverse, List.length_range', List.length_range] <;> omega))⟩
      simp (disch := first | omega | (simp only [List.length_map, List.length_append, List.length_cons, List.length_nil, List.length_take, List.length_drop, List.length_reverse, List.length_range', List.length_range] <;> omega) | fail) [runFn, cut_map, cut_to, cut_from, cut_mid, -getElem?_pos, -List.map_take, -List.map_drop, -List.length_flatten, -Prod.exists, tk_map, dr_map, List.getElem?_cons_zero, List.getElem?_cons_succ, forBody]
    simp (disch := first | omega | (simp only [List.length_map, List.length_append, List.length_cons, List.length_nil, List.length_take, List.length_drop, List.length_reverse, List.length_range', List.length_range] <;> omega) | fail) [runFn, cut_map, cut_to, cut_from, cut_mid, -getElem?_pos, -List.map_take, -List.map_drop, -List.length_flatten, -Prod.exists, tk_map, dr_map, List.getElem?_cons_zero, List.getElem?_cons_succ, fold_join]
    have hE := edP_len ws.flatten a m x
    rw [spec_law_edited _ _ _ _ _ _ (by omega) (by omega)]
    simp (disch := first | omega | (simp only [List.length_map, List.length_append, List.length_cons, List.length_nil, List.length_take, List.length_drop, List.length_reverse, List.length_range', List.length_range] <;> omega) | fail) [runFn, cut_map, cut_to, cut_from, cut_mid, -getElem?_pos, -List.map_take, -List.map_drop, -List.length_flatten, -Prod.exists, tk_map, dr_map, List.getElem?_cons_zero, List.getElem?_cons_succ]
    refine bnd_of (loopC_all (e := eW) (g := fun w => .int (w.length : Nat)) _ ?_) ?_
    · intro w _
      simp (disch := first | omega | (simp only [List.length_map, List.length_append, List.length_cons, List.length_nil, List.length_take, List.length_drop, List.length_reverse, List.length_range', List.length_range] <;> omega) | fail) [runFn, cut_map, cut_to, cut_from, cut_mid, -getElem?_pos, -List.map_take, -List.map_drop, -List.length_flatten, -Prod.exists, tk_map, dr_map, List.getElem?_cons_zero, List.getElem?_cons_succ, compBody]
    have hs0 : ∀ A : List W, op1 .sum (.lst (.int 0 :: A.map fun w => .int (w.length : Nat))) = some (.int (A.flatten.length : Nat)) := by
      intro A
      have := op1_sum_len ([] :: A)
      simpa using this
    simp (disch := first | omega | (simp only [List.length_map, List.length_append, List.length_cons, List.length_nil, List.length_take, List.length_drop, List.length_reverse, List.length_range', List.length_range] <;> omega) | fail) [runFn, cut_map, cut_to, cut_from, cut_mid, -getElem?_pos, -List.map_take, -List.map_drop, -List.length_flatten, -Prod.exists, tk_map, dr_map, List.getElem?_cons_zero, List.getElem?_cons_succ, hs0]
    refine bnd_of (loopC_all (e := eW) (g := fun w => .int (w.length : Nat)) _ ?_) ?_
    · intro w _
      simp (disch := first | omega | (simp only [List.length_map, List.length_append, List.length_cons, List.length_nil, List.length_take, List.length_drop, List.length_reverse, List.length_range', List.length_range] <;> omega) | fail) [runFn, cut_map, cut_to, cut_from, cut_mid, -getElem?_pos, -List.map_take, -List.map_drop, -List.length_flatten, -Prod.exists, tk_map, dr_map, List.getElem?_cons_zero, List.getElem?_cons_succ, compBody]
    simp (disch := first | omega | (simp only [List.length_map, List.length_append, List.length_cons, List.length_nil, List.length_take, List.length_drop, List.length_reverse, List.length_range', List.length_range] <;> omega) | fail) [runFn, cut_map, cut_to, cut_from, cut_mid, -getElem?_pos, -List.map_take, -List.map_drop, -List.length_flatten, -Prod.exists, tk_map, dr_map, List.getElem?_cons_zero, List.getElem?_cons_succ, hs0]
    have hE2 : edP ws.flatten a m x = A.flatten ++ edP M.flatten (a - A.flatten.length) m x ++ B.flatten := by
      rw [hfl]; exact edP_parts x h3 h4
    have hE3 := congrArg List.length hE2
    rw [List.length_append, List.length_append] at hE3
    have hcut : cut (edP ws.flatten a m x) (some (A.flatten.length : Nat)) (some ((List.length (edP ws.flatten a m x) : Int) - B.flatten.length)) = edP M.flatten (a - A.flatten.length) m x := by
      rw [cut_mid _ _ _ (by omega) (by omega), hE2, List.append_assoc, Int.toNat_natCast, List.drop_left]
      have hE4 : ((List.length (A.flatten ++ (edP M.flatten (a - A.flatten.length) m x ++ B.flatten)) : Int) - B.flatten.length).toNat - A.flatten.length = (edP M.flatten (a - A.flatten.length) m x).length := by
        rw [List.length_append, List.length_append]; omega
      rw [hE4, List.take_left]
    rw [hcut]
    refine bnd_of (loopC_all (e := PV.int) (g := fun x => .tup [.int x]) _ ?_) ?_
    · intro w _
      simp (disch := first | omega | (simp only [List.length_map, List.length_append, List.length_cons, List.length_nil, List.length_take, List.length_drop, List.length_reverse, List.length_range', List.length_range] <;> omega) | fail) [runFn, cut_map, cut_to, cut_from, cut_mid, -getElem?_pos, -List.map_take, -List.map_drop, -List.length_flatten, -Prod.exists, tk_map, dr_map, List.getElem?_cons_zero, List.getElem?_cons_succ, compBody]
    simp (disch := first | omega | (simp only [List.length_map, List.length_append, List.length_cons, List.length_nil, List.length_take, List.length_drop, List.length_reverse, List.length_range', List.length_range] <;> omega) | fail) [runFn, cut_map, cut_to, cut_from, cut_mid, -getElem?_pos, -List.map_take, -List.map_drop, -List.length_flatten, -Prod.exists, tk_map, dr_map, List.getElem?_cons_zero, List.getElem?_cons_succ, pcs_eq x e hA hB, hA, hB, Function.comp_def]
end RS

set_option linter.all false
set_option maxRecDepth 100000
set_option maxHeartbeats 1000000
namespace RS
open PySem (Str)
theorem Dat_le {d d' : Nat} {p : PV} (h : Dat d p) (hd : d ≤ d') : Dat d' p := by
  induction hd with
  | refl => exact h
  | step _ ih => exact Dat_up ih
theorem Dat_t2 {d : Nat} {a b : PV} (h1 : Dat d a) (h2 : Dat d b) : Dat (d + 1) (.tup [a, b]) := .tup (by simp) (by simp [h1, h2])
theorem Dat_t3 {d : Nat} {a b c : PV} (h1 : Dat d a) (h2 : Dat d b) (h3 : Dat d c) : Dat (d + 1) (.tup [a, b, c]) := .tup (by simp) (by simp [h1, h2, h3])
theorem Dat_eE {a m : Nat} {x : W} (h : x.length ≤ 1000) : Dat 2 (eE a m x) := Dat_t3 (.int _ _) (.int _ _) (Dat_eW h)
theorem edP_back (w : W) (a m : Nat) (x : W) (h : a + m ≤ w.length) : edP (edP w a m x) a x.length ((w.drop a).take m) = w := by
  have h1 : (w.take a).length = a := by rw [List.length_take]; omega
  unfold edP
  have e1 : ((w.take a ++ x) ++ w.drop (a + m)).take a = w.take a := by
    rw [List.append_assoc, List.take_append_of_le_length (by omega), List.take_of_length_le (by omega)]
  have e2 : ((w.take a ++ x) ++ w.drop (a + m)).drop (a + x.length) = w.drop (a + m) := by
    have : (w.take a ++ x).length = a + x.length := by rw [List.length_append, h1]
    rw [← this, List.drop_left]
  rw [e1, e2, List.append_assoc, ← List.drop_drop, List.take_append_drop, List.take_append_drop]
theorem edP_eb (a b : W) : edP a (lcp a b) (a.length - lcp a b - ebE a b) ((b.drop (lcp a b)).take (b.length - lcp a b - ebE a b)) = b := by
  have h1 := ebE_le a b
  have h2 := lcp_take (a.drop (lcp a b)).reverse (b.drop (lcp a b)).reverse (ebE a b) (Nat.le_refl _)
  rw [← drop_eq_iff, List.drop_drop, List.drop_drop, List.length_drop, List.length_drop] at h2
  unfold edP
  rw [h2, lcp_take a b (lcp a b) (Nat.le_refl _), List.append_assoc]
  conv => rhs; rw [← List.take_append_drop (lcp a b) b]
  congr 1
  rw [← List.drop_drop, List.take_append_drop]
theorem ends_take : ∀ (ws : List W) (s : Nat), endsP s ws = (List.range ws.length).map fun k => s + (ws.take (k + 1)).flatten.length
  | [], _ => rfl
  | w :: r, s => by
    rw [endsP, ends_take r, List.length_cons, List.range_succ_eq_map, List.map_cons, List.map_map]
    congr 1
    · simp
    · apply List.map_congr_left
      intro k _
      show s + w.length + (r.take (k + 1)).flatten.length = s + ((w :: r).take (k + 1 + 1)).flatten.length
      rw [List.take_succ_cons, List.flatten_cons, List.length_append, Nat.add_assoc]
theorem ends_mem (ws : List W) (k : Nat) (h : k ∈ List.range' 1 ws.length) : (ws.take k).flatten.length ∈ endsP 0 ws := by
  rw [List.mem_range'_1] at h
  rw [ends_take, List.mem_map]
  exact ⟨k - 1, by rw [List.mem_range]; omega, by rw [show k - 1 + 1 = k by omega, Nat.zero_add]⟩
theorem opIn_int (i : Nat) (l : List Nat) (h : i ∈ l) : op2 .notIn (.int i) (.tup (l.map fun (n : Nat) => .int n)) = some (.bl false) := by
  have hf : (l.map fun (n : Nat) => PV.int n).all flat = true := by
    rw [List.all_map, List.all_eq_true]; intro x _; rfl
  have ha : (l.map fun (n : Nat) => PV.int n).any (fun z => eqv z (.int i)) = true := by
    rw [List.any_map, List.any_eq_true]; exact ⟨i, h, by simp [eqv]⟩
  show (opIn (.int i) (.tup (l.map fun (n : Nat) => .int n))).map _ = _
  have : opIn (.int i) (.tup (l.map fun (n : Nat) => .int n)) = some true := by
    simp only [opIn, rowOf]
    show (if flat (.int i) && (l.map fun (n : Nat) => PV.int n).all flat then some _ else none) = _
    rw [hf, ha]; rfl
  rw [this]; rfl
theorem op1_sum_len0 (A : List W) : op1 .sum (.lst (.int 0 :: A.map fun w => .int (w.length : Nat))) = some (.int (A.flatten.length : Nat)) := by
  have := op1_sum_len ([] :: A)
  simpa using this
theorem range_1 (n : Nat) : (rangeI 1 ((n : Int) + 1)).map PV.int = (List.range' 1 n).map fun (n : Nat) => .int n := by
  have hr := ofNat_range 1 (n + 1)
  rw [show ((1 : Nat) : Int) = 1 from rfl, show ((n + 1 : Nat) : Int) = (n : Int) + 1 from rfl, show n + 1 - 1 = n by omega] at hr
  exact hr
theorem spec_edit_told (k : Nat) (w x : W) (a m : Nat) (D : List Int) (hw : w.length ≤ 50) (hx : x.length ≤ 4) (hm : a + m ≤ w.length) :
    callF G (k + 7) 26 [.loc 0, .pv (eW w), .pv (eE a m x)] (St D []) = .ok (.pv (.bl true), St D []) := by
  have hs : ∀ p, Dat 5 p → callF G (k + 6) 15 [.pv p, .pv p] (St D []) = .ok (.pv (.bl true), St D []) := fun p h => spec_same 5 k p _ h
  have hE := edP_len w a m x
  have hl := lc_len w
  have hl2 := lc_len (edP w a m x)
  have hp := pcs_len w x a m (by omega) (by omega) hm
  have eb := ebE_le w (edP w a m x)
  have p1 := spec_pieces' (k + 3) w x a m (St D []) (by omega) (by omega) hm
  have p2 := spec_mended (k + 2) w x a m (St D []) (by omega) (by omega) hm
  have p3 := spec_joins (k + 1) w x a m (St D []) (by omega) (by omega) hm
  have p4 := spec_law_pieces (k + 4) (lc w) x a m (St D []) (by omega) (by rw [lc_flat]; omega) (by omega) (by rw [lc_flat]; exact hm)
  have p5 := spec_law_eb PV.int (EqOk_tup (Cl_int 59)) (k + 5) w (edP w a m x) (St D []) (by omega) (by omega)
  rw [call_start G_law_is_edit_told]
  simp (disch := first | omega | (simp only [List.length_map, List.length_append, List.length_cons, List.length_nil, List.length_take, List.length_drop, List.length_reverse, List.length_range', List.length_range] <;> omega) | fail) [runFn, cut_map, cut_to, cut_from, cut_mid, -getElem?_pos, -List.map_take, -List.map_drop, -List.length_flatten, -Prod.exists, tk_map, dr_map, List.getElem?_cons_zero, List.getElem?_cons_succ, i_law_is_edit_told, spec_law_edited, spec_law_cut, spec_edited, spec_edit_back, edP_back w a m x hm, show ((a : Int) + m).toNat = a + m by omega, show a + m - a = m by omega]
  rw [hs _ (Dat_le (Dat_t3 (Dat_le (Dat_eW (by omega)) (show 1 ≤ 2 by omega)) (Dat_eE (by simp; omega)) (Dat_le (Dat_eW (by omega)) (show 1 ≤ 2 by omega))) (by omega))]
  simp (disch := first | omega | (simp only [List.length_map, List.length_append, List.length_cons, List.length_nil, List.length_take, List.length_drop, List.length_reverse, List.length_range', List.length_range] <;> omega) | fail) [runFn, cut_map, cut_to, cut_from, cut_mid, -getElem?_pos, -List.map_take, -List.map_drop, -List.length_flatten, -Prod.exists, tk_map, dr_map, List.getElem?_cons_zero, List.getElem?_cons_succ, p4, spec_law_cut, p1, p2, p3, spec_words_kept]
  rw [hs _ (Dat_le (Dat_t3 (Dat_le (Dat_t2 (.int 0 _) (.int 0 _)) (show 1 ≤ 2 by omega)) (Dat_eC (by omega) (by omega)) (Dat_cut (by omega))) (by omega))]
  simp (disch := first | omega | (simp only [List.length_map, List.length_append, List.length_cons, List.length_nil, List.length_take, List.length_drop, List.length_reverse, List.length_range', List.length_range] <;> omega) | fail) [runFn, cut_map, cut_to, cut_from, cut_mid, -getElem?_pos, -List.map_take, -List.map_drop, -List.length_flatten, -Prod.exists, tk_map, dr_map, List.getElem?_cons_zero, List.getElem?_cons_succ, p3, spec_alike, spec_law_alike]
  rw [hs _ (Dat_le (Dat_t3 (.int 1 _) (Dat_t2 (.int 0 _) (.int 0 _)) (Dat_t2 (.int 0 _) (.int 0 _))) (by omega))]
  simp (disch := first | omega | (simp only [List.length_map, List.length_append, List.length_cons, List.length_nil, List.length_take, List.length_drop, List.length_reverse, List.length_range', List.length_range] <;> omega) | fail) [runFn, cut_map, cut_to, cut_from, cut_mid, -getElem?_pos, -List.map_take, -List.map_drop, -List.length_flatten, -Prod.exists, tk_map, dr_map, List.getElem?_cons_zero, List.getElem?_cons_succ, p5, spec_edit_between, spec_edited, edP_eb]
  rw [hs _ (Dat_le (Dat_t2 (Dat_eE (by simp; omega)) (Dat_le (Dat_eW (by omega)) (show 1 ≤ 2 by omega))) (by omega))]
  simp (disch := first | omega | (simp only [List.length_map, List.length_append, List.length_cons, List.length_nil, List.length_take, List.length_drop, List.length_reverse, List.length_range', List.length_range] <;> omega) | fail) [runFn, cut_map, cut_to, cut_from, cut_mid, -getElem?_pos, -List.map_take, -List.map_drop, -List.length_flatten, -Prod.exists, tk_map, dr_map, List.getElem?_cons_zero, List.getElem?_cons_succ, range_1]
  refine bnd_of (loopC_all (e := fun (n : Nat) => .int n) (g := fun n => .int (((lc (edP w a m x)).take n).flatten.length : Nat)) (List.range' 1 (lc (edP w a m x)).length) ?_) ?_
  · intro n hn
    simp (disch := first | omega | (simp only [List.length_map, List.length_append, List.length_cons, List.length_nil, List.length_take, List.length_drop, List.length_reverse, List.length_range', List.length_range] <;> omega) | fail) [runFn, cut_map, cut_to, cut_from, cut_mid, -getElem?_pos, -List.map_take, -List.map_drop, -List.length_flatten, -Prod.exists, tk_map, dr_map, List.getElem?_cons_zero, List.getElem?_cons_succ, compBody]
    refine bnd_of (loopC_all (e := eW) (g := fun w => .int (w.length : Nat)) _ ?_) ?_
    · intro w _
      simp (disch := first | omega | (simp only [List.length_map, List.length_append, List.length_cons, List.length_nil, List.length_take, List.length_drop, List.length_reverse, List.length_range', List.length_range] <;> omega) | fail) [runFn, cut_map, cut_to, cut_from, cut_mid, -getElem?_pos, -List.map_take, -List.map_drop, -List.length_flatten, -Prod.exists, tk_map, dr_map, List.getElem?_cons_zero, List.getElem?_cons_succ, compBody]
    simp (disch := first | omega | (simp only [List.length_map, List.length_append, List.length_cons, List.length_nil, List.length_take, List.length_drop, List.length_reverse, List.length_range', List.length_range] <;> omega) | fail) [runFn, cut_map, cut_to, cut_from, cut_mid, -getElem?_pos, -List.map_take, -List.map_drop, -List.length_flatten, -Prod.exists, tk_map, dr_map, List.getElem?_cons_zero, List.getElem?_cons_succ, op1_sum_len0]
  simp (disch := first | omega | (simp only [List.length_map, List.length_append, List.length_cons, List.length_nil, List.length_take, List.length_drop, List.length_reverse, List.length_range', List.length_range] <;> omega) | fail) [runFn, cut_map, cut_to, cut_from, cut_mid, -getElem?_pos, -List.map_take, -List.map_drop, -List.length_flatten, -Prod.exists, tk_map, dr_map, List.getElem?_cons_zero, List.getElem?_cons_succ]
  refine bnd_of (loopC_flt (e := fun (n : Nat) => .int (((lc (edP w a m x)).take n).flatten.length : Nat)) (q := fun _ => false) (g := fun _ => .non) (List.range' 1 (lc (edP w a m x)).length) ?_) ?_
  · intro n hn
    simp (disch := first | omega | (simp only [List.length_map, List.length_append, List.length_cons, List.length_nil, List.length_take, List.length_drop, List.length_reverse, List.length_range', List.length_range] <;> omega) | fail) [runFn, cut_map, cut_to, cut_from, cut_mid, -getElem?_pos, -List.map_take, -List.map_drop, -List.length_flatten, -Prod.exists, tk_map, dr_map, List.getElem?_cons_zero, List.getElem?_cons_succ, compBody, spec_ends, opIn_int _ _ (ends_mem (lc (edP w a m x)) n hn)]
  simp (disch := first | omega | (simp only [List.length_map, List.length_append, List.length_cons, List.length_nil, List.length_take, List.length_drop, List.length_reverse, List.length_range', List.length_range] <;> omega) | fail) [runFn, cut_map, cut_to, cut_from, cut_mid, -getElem?_pos, -List.map_take, -List.map_drop, -List.length_flatten, -Prod.exists, tk_map, dr_map, List.getElem?_cons_zero, List.getElem?_cons_succ, show List.filter (fun _ : Nat => false) (List.range' 1 (lc (edP w a m x)).length) = [] from flt_none (fun _ _ => rfl)]

theorem spec_rows_told (k : Nat) (w : W) (D : List Int) (hw : w.length ≤ 20) :
    ∃ D', callF G (k + 7) 27 [.loc 0, .pv (eW w)] (St D []) = .ok (.pv (.bl true), St D' []) := by
  have hs : ∀ D p, Dat 5 p → callF G (k + 6) 15 [.pv p, .pv p] (St D []) = .ok (.pv (.bl true), St D []) := fun D p h => spec_same 5 k p _ h
  obtain ⟨Q, hQ⟩ : ∃ Q : Val × Sto → Prop, Q = fun r => ∃ (D' : List Int), r = (.pv (.bl true), St D' []) := ⟨_, rfl⟩
  suffices hq : ∃ r, callF G (k + 7) 27 [.loc 0, .pv (eW w)] (St D []) = .ok r ∧ Q r by
    rw [hQ] at hq
    obtain ⟨_, g1, D', rfl⟩ := hq
    exact ⟨D', g1⟩
  have hl := lc_len w
  have hF := lc_Fal w
  rw [call_start G_law_are_rows_told]
  simp (disch := first | omega | (simp only [List.length_map, List.length_append, List.length_cons, List.length_nil, List.length_take, List.length_drop, List.length_reverse, List.length_range', List.length_range] <;> omega) | fail) [runFn, cut_map, cut_to, cut_from, cut_mid, -getElem?_pos, -List.map_take, -List.map_drop, -List.length_flatten, -Prod.exists, tk_map, dr_map, List.getElem?_cons_zero, List.getElem?_cons_succ, i_law_are_rows_told, spec_law_cut]
  refine bnd_exx ⟨_, loopC_all (e := eW) (g := eW) (lc w) ?_, rfl⟩ ?_
  · intro w _
    simp (disch := first | omega | (simp only [List.length_map, List.length_append, List.length_cons, List.length_nil, List.length_take, List.length_drop, List.length_reverse, List.length_range', List.length_range] <;> omega) | fail) [runFn, cut_map, cut_to, cut_from, cut_mid, -getElem?_pos, -List.map_take, -List.map_drop, -List.length_flatten, -Prod.exists, tk_map, dr_map, List.getElem?_cons_zero, List.getElem?_cons_succ, compBody]
  rintro _ rfl
  obtain ⟨t, D1, h1, ht⟩ := spec_take (k + 5) D [] 4 (by omega)
  simp (disch := first | omega | (simp only [List.length_map, List.length_append, List.length_cons, List.length_nil, List.length_take, List.length_drop, List.length_reverse, List.length_range', List.length_range] <;> omega) | fail) [runFn, cut_map, cut_to, cut_from, cut_mid, -getElem?_pos, -List.map_take, -List.map_drop, -List.length_flatten, -Prod.exists, tk_map, dr_map, List.getElem?_cons_zero, List.getElem?_cons_succ, h1, ofNat_range0]
  refine bnd_exx (loopC_inv (e := fun (n : Nat) => .int n) (I := fun S => ∃ D, S = St D []) (Q := fun p => ∃ u : W, p = eW u ∧ Lyn u ∧ u.length ≤ 4) _ ?_ _ ⟨D1, rfl⟩) ?_
  · rintro a _ _ ⟨D, rfl⟩
    obtain ⟨v, D', g1, g2⟩ := spec_word (k + 4) D 4 (by omega)
    obtain ⟨hd, r, hr⟩ : ∃ hd r, lc v = hd :: r := by
      cases e : lc v with
      | nil => have := lc_flat v; rw [e] at this; rw [← this] at g2; simp at g2
      | cons a b => exact ⟨a, b, rfl⟩
    have hF2 := lc_Fal v
    have hf2 := congrArg List.length (lc_flat v)
    rw [hr] at hF2 hf2
    rw [List.flatten_cons, List.length_append] at hf2
    refine ⟨eW hd, St D' [], ?_, ⟨D', rfl⟩, hd, rfl, (Fal_cons.mp hF2).1, by omega⟩
    rw [show ((4 : Nat) : Int) = 4 from rfl] at g1
    simp (disch := first | omega | (simp only [List.length_map, List.length_append, List.length_cons, List.length_nil, List.length_take, List.length_drop, List.length_reverse, List.length_range', List.length_range] <;> omega) | fail) [runFn, cut_map, cut_to, cut_from, cut_mid, -getElem?_pos, -List.map_take, -List.map_drop, -List.length_flatten, -Prod.exists, tk_map, dr_map, List.getElem?_cons_zero, List.getElem?_cons_succ, compBody, g1, spec_law_cut, hr]
  · rintro ⟨ys, _⟩ ⟨⟨D2, rfl⟩, h2, h3⟩
    obtain ⟨us, rfl, hus⟩ : ∃ us : List W, ys = us.map eW ∧ ∀ u ∈ us, Lyn u ∧ u.length ≤ 4 := by
      clear h2
      induction ys with
      | nil => exact ⟨[], rfl, by simp⟩
      | cons y ys ih =>
        obtain ⟨us, e1, e2⟩ := ih (fun p hp => h3 p (by simp at hp ⊢; exact Or.inr hp))
        obtain ⟨u, e3, e4⟩ := h3 y (by simp)
        refine ⟨u :: us, by rw [List.map_cons, ← e1, e3], ?_⟩
        intro v hv
        rcases List.mem_cons.mp hv with rfl | hv
        · exact e4
        · exact e2 v hv
    simp at h2
    have hrow : ((lc w).map eW ++ us.map eW) = (lc w ++ us).map eW := by simp
    have hrl : (lc w ++ us).length ≤ 24 := by rw [List.length_append]; omega
    have hrL : ∀ u ∈ lc w ++ us, Lyn u ∧ u.length ≤ 20 := by
      intro u hu
      rcases List.mem_append.mp hu with hu | hu
      · refine ⟨hF.1 u hu, ?_⟩
        have h0 := congrArg List.length (lc_flat w)
        obtain ⟨s, t, e⟩ := List.append_of_mem hu
        rw [e, List.flatten_append, List.flatten_cons, List.length_append, List.length_append] at h0
        omega
      · have := hus u hu
        exact ⟨this.1, by omega⟩
    obtain ⟨row, D3, h4, h5, h6⟩ := spec_mixed (k + 4) D2 (lc w ++ us) (by omega)
    have hrowL : ∀ u ∈ row, Lyn u := fun u hu => (hrL u (h6 u hu)).1
    have hrowf : row.flatten.length ≤ row.length * 20 := by
      clear h4 h5
      induction row with
      | nil => simp
      | cons a r ih =>
        have := ih (fun u hu => h6 u (by simp [hu])) (fun u hu => hrowL u (by simp [hu]))
        have := (hrL a (h6 a (by simp))).2
        rw [List.flatten_cons, List.length_append, List.length_cons]; omega
    rw [List.map_append] at h4
    simp (disch := first | omega | (simp only [List.length_map, List.length_append, List.length_cons, List.length_nil, List.length_take, List.length_drop, List.length_reverse, List.length_range', List.length_range] <;> omega) | fail) [runFn, cut_map, cut_to, cut_from, cut_mid, -getElem?_pos, -List.map_take, -List.map_drop, -List.length_flatten, -Prod.exists, tk_map, dr_map, List.getElem?_cons_zero, List.getElem?_cons_succ, h4]
    have hrlen : row.length ≤ 24 := by omega
    have hfl2 := fal_lc hrowL
    have hlr := lc_len row.flatten
    simp (disch := first | omega | (simp only [List.length_map, List.length_append, List.length_cons, List.length_nil, List.length_take, List.length_drop, List.length_reverse, List.length_range', List.length_range] <;> omega) | fail) [runFn, cut_map, cut_to, cut_from, cut_mid, -getElem?_pos, -List.map_take, -List.map_drop, -List.length_flatten, -Prod.exists, tk_map, dr_map, List.getElem?_cons_zero, List.getElem?_cons_succ, ofNat_range0]
    refine bnd_exx ⟨_, loopC_all (e := fun (n : Nat) => .int n) (g := fun n => .int ((row.take (n + 1)).flatten.length : Nat)) (List.range row.length) ?_, rfl⟩ ?_
    · intro n hn
      simp (disch := first | omega | (simp only [List.length_map, List.length_append, List.length_cons, List.length_nil, List.length_take, List.length_drop, List.length_reverse, List.length_range', List.length_range] <;> omega) | fail) [runFn, cut_map, cut_to, cut_from, cut_mid, -getElem?_pos, -List.map_take, -List.map_drop, -List.length_flatten, -Prod.exists, tk_map, dr_map, List.getElem?_cons_zero, List.getElem?_cons_succ, compBody, show ((n : Int) + 1).toNat = n + 1 by omega]
      refine bnd_of (loopC_all (e := eW) (g := fun w => .int (w.length : Nat)) _ ?_) ?_
      · intro w _
        simp (disch := first | omega | (simp only [List.length_map, List.length_append, List.length_cons, List.length_nil, List.length_take, List.length_drop, List.length_reverse, List.length_range', List.length_range] <;> omega) | fail) [runFn, cut_map, cut_to, cut_from, cut_mid, -getElem?_pos, -List.map_take, -List.map_drop, -List.length_flatten, -Prod.exists, tk_map, dr_map, List.getElem?_cons_zero, List.getElem?_cons_succ, compBody]
      simp (disch := first | omega | (simp only [List.length_map, List.length_append, List.length_cons, List.length_nil, List.length_take, List.length_drop, List.length_reverse, List.length_range', List.length_range] <;> omega) | fail) [runFn, cut_map, cut_to, cut_from, cut_mid, -getElem?_pos, -List.map_take, -List.map_drop, -List.length_flatten, -Prod.exists, tk_map, dr_map, List.getElem?_cons_zero, List.getElem?_cons_succ, op1_sum_len]
    rintro _ rfl
    have hends : (List.range row.length).map (fun n => PV.int ((row.take (n + 1)).flatten.length : Nat)) = (endsP 0 row).map fun (n : Nat) => .int n := by
      rw [ends_take, List.map_map]
      apply List.map_congr_left
      intro n _
      simp
    rw [hends]
    simp (disch := first | omega | (simp only [List.length_map, List.length_append, List.length_cons, List.length_nil, List.length_take, List.length_drop, List.length_reverse, List.length_range', List.length_range] <;> omega) | fail) [runFn, cut_map, cut_to, cut_from, cut_mid, -getElem?_pos, -List.map_take, -List.map_drop, -List.length_flatten, -Prod.exists, tk_map, dr_map, List.getElem?_cons_zero, List.getElem?_cons_succ, spec_ends, spec_joined, spec_law_cut, spec_fallen (k + 4) row (St D3 []) (by omega) (by omega) hrowL, hfl2]
    rw [hs _ _ (Dat_le (Dat_t2 (Dat_cut (w := row.flatten) (by omega)) (Dat_le (Dat_map (d := 0) (e := fun (n : Nat) => PV.int n) (l := endsP 0 row) (by simp; omega) (fun i _ => .int 0 _)) (show 1 ≤ 2 by omega))) (by omega))]
    simp (disch := first | omega | (simp only [List.length_map, List.length_append, List.length_cons, List.length_nil, List.length_take, List.length_drop, List.length_reverse, List.length_range', List.length_range] <;> omega) | fail) [runFn, cut_map, cut_to, cut_from, cut_mid, -getElem?_pos, -List.map_take, -List.map_drop, -List.length_flatten, -Prod.exists, tk_map, dr_map, List.getElem?_cons_zero, List.getElem?_cons_succ, spec_law_cut]
    have hlit : (List.map eW row ++ [PV.tup [PV.int 0], PV.tup [PV.int 1], PV.tup [PV.int 0, PV.int 1]]) = (row ++ [[0], [1], [0, 1]]).map eW := by simp
    rw [hlit]
    refine bnd_exx (loopF_go (e := eW) (st := fun v => [some (.loc 0), some (.pv (eW w)), some (.pv (.lst (List.map eW (lc w) ++ List.map eW us))), some (.pv (eC row)), some (.pv (.tup ((endsP 0 row).map fun (n : Nat) => .int n))), some (.pv (eCut w)), v, none]) (g := fun u => some (.pv (eW u))) _ none ?_) ?_
    · intro u hu v
      have hu2 : Lyn u ∧ u.length ≤ 20 := by
        rcases List.mem_append.mp hu with hu | hu
        · exact hrL u (h6 u hu)
        · simp at hu
          rcases hu with rfl | rfl | rfl
          · exact ⟨Lyn_one _, by simp⟩
          · exact ⟨Lyn_one _, by simp⟩
          · exact ⟨Lyn_join (Lyn_one 0) (Lyn_one 1) rfl, by simp⟩
      have hpb := spec_put_behind (k + 5) (lc w) u (St D3 []) (by omega) (by rw [lc_flat]; omega)
      rw [pb_lc hu2.1] at hpb
      have hlc := spec_law_cut (k + 4) (w ++ u) (St D3 []) (by simp; omega)
      rw [eW, List.map_append] at hlc
      simp (disch := first | omega | (simp only [List.length_map, List.length_append, List.length_cons, List.length_nil, List.length_take, List.length_drop, List.length_reverse, List.length_range', List.length_range] <;> omega) | fail) [runFn, cut_map, cut_to, cut_from, cut_mid, -getElem?_pos, -List.map_take, -List.map_drop, -List.length_flatten, -Prod.exists, tk_map, dr_map, List.getElem?_cons_zero, List.getElem?_cons_succ, forBody, hpb, hlc]
      rw [hs _ _ (Dat_le (Dat_cut (w := w ++ u) (by simp; omega)) (by omega))]
      simp (disch := first | omega | (simp only [List.length_map, List.length_append, List.length_cons, List.length_nil, List.length_take, List.length_drop, List.length_reverse, List.length_range', List.length_range] <;> omega) | fail) [runFn, cut_map, cut_to, cut_from, cut_mid, -getElem?_pos, -List.map_take, -List.map_drop, -List.length_flatten, -Prod.exists, tk_map, dr_map, List.getElem?_cons_zero, List.getElem?_cons_succ]
    · rintro _ ⟨v, rfl⟩
      rw [hQ]
      refine ⟨_, ?_, D3, rfl⟩
      simp (disch := first | omega | (simp only [List.length_map, List.length_append, List.length_cons, List.length_nil, List.length_take, List.length_drop, List.length_reverse, List.length_range', List.length_range] <;> omega) | fail) [runFn, cut_map, cut_to, cut_from, cut_mid, -getElem?_pos, -List.map_take, -List.map_drop, -List.length_flatten, -Prod.exists, tk_map, dr_map, List.getElem?_cons_zero, List.getElem?_cons_succ]
end RS

set_option linter.all false
set_option maxRecDepth 100000
set_option maxHeartbeats 2000000
namespace RS
open PySem (Str)
theorem along_last : ∀ (es : List (Nat × Nat × W)) (w : W), (along w es).getLast? = some (lastW w es)
  | [], w => rfl
  | e :: r, w => by
    have := along_last r (edP w e.1 e.2.1 e.2.2)
    show (w :: along (edP w e.1 e.2.1 e.2.2) r).getLast? = _
    rw [List.getLast?_cons, this]; rfl
theorem along_len : ∀ (es : List (Nat × Nat × W)) (w : W), (along w es).length = es.length + 1
  | [], w => rfl
  | e :: r, w => by
    show (w :: along (edP w e.1 e.2.1 e.2.2) r).length = _
    rw [List.length_cons, along_len r, List.length_cons]
theorem Fit_mid : ∀ (done : List (Nat × Nat × W)) (w : W) (e : Nat × Nat × W) (r : List (Nat × Nat × W)), Fit w (done ++ e :: r) → (lastW w done).length ≤ 100 ∧ e.2.2.length ≤ 100 ∧ e.1 + e.2.1 ≤ (lastW w done).length
  | [], w, e, r, h => ⟨h.1, h.2.1, h.2.2.1⟩
  | c :: d, w, e, r, h => Fit_mid d _ e r h.2.2.2
theorem spec_along (k : Nat) (w : W) (es : List (Nat × Nat × W)) (S : Sto) (hw : w.length ≤ 100) (he : es.length ≤ 10) (hF : Fit w es) :
    callF G (k + 5) 12 [.pv (eW w), .pv (.tup (es.map eEd))] S = .ok (.pv (.tup ((along w es).map eCut)), S) := by
  rw [call_start G_mended_along]
  simp (disch := first | omega | (simp only [List.length_map, List.length_append, List.length_cons, List.length_nil, List.length_take, List.length_drop, List.length_reverse, List.length_range', List.length_range] <;> omega) | fail) [runFn, cut_map, cut_to, cut_from, cut_mid, -getElem?_pos, -List.map_take, -List.map_drop, -List.length_flatten, -Prod.exists, tk_map, dr_map, List.getElem?_cons_zero, List.getElem?_cons_succ, i_mended_along, spec_cut_of]
  refine bnd_ex (loopF_iv (e := eEd)
      (P := fun r ρ S' => ∃ done v, ρ = [some (.pv (eW w)), some (.pv (.tup (es.map eEd))), some (.pv (.tup ((along w done).map eCut))), v] ∧ S' = S ∧ done ++ r = es) ?_ es _ _ ⟨[], none, rfl, rfl, rfl⟩) ?_
  · rintro e r _ S1 ⟨done, v, rfl, rfl, e1⟩
    have hM := Fit_mid done w e r (by rw [e1]; exact hF)
    have hl := congrArg List.length e1
    rw [List.length_append] at hl
    have hal := along_len done w
    have hlast := along_last done w
    have hmc := spec_mended k (lastW w done) e.2.2 e.1 e.2.1 S1 hM.1 hM.2.1 hM.2.2
    refine ⟨_, _, ?_, done ++ [e], some (.pv (eEd e)), rfl, rfl, by rw [List.append_assoc]; exact e1⟩
    simp (disch := first | omega | (simp only [List.length_map, List.length_append, List.length_cons, List.length_nil, List.length_take, List.length_drop, List.length_reverse, List.length_range', List.length_range] <;> omega) | fail) [runFn, cut_map, cut_to, cut_from, cut_mid, -getElem?_pos, -List.map_take, -List.map_drop, -List.length_flatten, -Prod.exists, tk_map, dr_map, List.getElem?_cons_zero, List.getElem?_cons_succ, forBody, hlast, hmc, along_snoc]
  · rintro _ ⟨_, _, rfl, done, v, rfl, rfl, e1⟩
    rw [List.append_nil] at e1
    subst e1
    simp (disch := first | omega | (simp only [List.length_map, List.length_append, List.length_cons, List.length_nil, List.length_take, List.length_drop, List.length_reverse, List.length_range', List.length_range] <;> omega) | fail) [runFn, cut_map, cut_to, cut_from, cut_mid, -getElem?_pos, -List.map_take, -List.map_drop, -List.length_flatten, -Prod.exists, tk_map, dr_map, List.getElem?_cons_zero, List.getElem?_cons_succ]

theorem along_le : ∀ (es : List (Nat × Nat × W)) (w : W), Fit w es → (lastW w es).length ≤ 100 → ∀ u ∈ along w es, u.length ≤ 100
  | [], w, _, h, u, hu => by
    simp [along] at hu; rw [hu]; exact h
  | e :: r, w, f, h, u, hu => by
    rcases List.mem_cons.mp hu with rfl | hu
    · exact f.1
    · exact along_le r _ f.2.2.2 h u hu
def datB : Nat → PV → Bool
  | _, .int _ => true
  | n + 1, .tup xs => decide (xs.length ≤ 1000) && xs.all (datB n)
  | _, _ => false
theorem datB_ok : ∀ {d : Nat} {p : PV}, datB d p = true → Dat d p := by
  intro d
  induction d with
  | zero =>
    intro p h
    cases p <;> first | exact .int _ _ | cases h
  | succ d ih =>
    intro p h
    cases p <;> first | exact .int _ _ | skip
    case tup xs =>
      simp only [datB, Bool.and_eq_true, decide_eq_true_eq, List.all_eq_true] at h
      exact .tup h.1 (fun x hx => ih (h.2 x hx))
    all_goals cases h
@[reducible] def eP2 (x : W × W) : PV := .tup [eW x.1, eW x.2]
theorem law_true : ∀ ns : List Int, ns.length ≤ 63 → ∃ S', callF G 60 28 [.pv (.scr ns)] [] = .ok (.pv (.bl true), S') := by
  intro ns hns
  have hs : ∀ D p, Dat 5 p → callF G 59 15 [.pv p, .pv p] (St D []) = .ok (.pv (.bl true), St D []) := fun D p h => spec_same 5 53 p _ h
  obtain ⟨D0, h0⟩ := spec_draws 58 ns hns
  obtain ⟨Q, hQ⟩ : ∃ Q : Val × Sto → Prop, Q = fun r => ∃ S', r = (.pv (.bl true), S') := ⟨_, rfl⟩
  suffices hq : ∃ r, callF G 60 28 [.pv (.scr ns)] [] = .ok r ∧ Q r by
    rw [hQ] at hq
    obtain ⟨_, g1, S', rfl⟩ := hq
    exact ⟨S', g1⟩
  rw [call_start G_law]
  have hr4 : (rangeI 0 4).map PV.int = (List.range 4).map fun (n : Nat) => PV.int n := ofNat_range0 4
  simp (disch := first | omega | (simp only [List.length_map, List.length_append, List.length_cons, List.length_nil, List.length_take, List.length_drop, List.length_reverse, List.length_range', List.length_range] <;> omega) | fail) [runFn, cut_map, cut_to, cut_from, cut_mid, -getElem?_pos, -List.map_take, -List.map_drop, -List.length_flatten, -Prod.exists, tk_map, dr_map, List.getElem?_cons_zero, List.getElem?_cons_succ, i_law, h0, hr4]
  refine bnd_exx (loopF_iv (e := fun (n : Nat) => .int n)
      (P := fun r ρ S => ∃ D v2 v3 v5 v6 v7 v8 v9 v10 v11 v12, ρ = [some (.pv (.scr ns)), some (.loc 0), v2, v3, none, v5, v6, v7, v8, v9, v10, v11, v12] ∧ S = St D [] ∧ ∀ a ∈ r, a < 4) ?_ (List.range 4) _ _ ⟨D0, none, none, none, none, none, none, none, none, none, none, rfl, rfl, by intro a ha; rwa [List.mem_range] at ha⟩) ?_
  · rintro turn r _ _ ⟨D, v2, v3, v5, v6, v7, v8, v9, v10, v11, v12, rfl, rfl, hlt⟩
    have ht4 := hlt turn (by simp)
    obtain ⟨t1, D1, h1, g1⟩ := spec_take 58 D [] 4 (by omega)
    obtain ⟨t2, D2, h2, g2⟩ := spec_take 58 D1 [] 17 (by omega)
    obtain ⟨n, hn, hnl⟩ : ∃ n : Nat, ([PV.int t1, .int 8, .int t2, .int 16] : List PV)[turn]? = some (.int n) ∧ n ≤ 16 := by
      rcases (by omega : turn = 0 ∨ turn = 1 ∨ turn = 2 ∨ turn = 3) with rfl | rfl | rfl | rfl
      · exact ⟨t1, rfl, by omega⟩
      · exact ⟨8, rfl, by omega⟩
      · exact ⟨t2, rfl, by omega⟩
      · exact ⟨16, rfl, by omega⟩
    obtain ⟨w, D3, h3, hw⟩ := spec_word 57 D2 n (by omega)
    obtain ⟨D4, h4⟩ := spec_rows_told 52 w D3 (by omega)
    obtain ⟨R, hR⟩ : ∃ R : Flow × Env × Sto → Prop, R = fun q => ∃ D v2 v3 v5 v6 v7 v8 v9 v10 v11 v12, q = (.nx, [some (.pv (.scr ns)), some (.loc 0), v2, v3, none, v5, v6, v7, v8, v9, v10, v11, v12], St D []) := ⟨_, rfl⟩
    suffices hq : ∃ q, forBody (callF G 59) _ _ (.int turn) [some (.pv (.scr ns)), some (.loc 0), v2, v3, none, v5, v6, v7, v8, v9, v10, v11, v12] (St D []) = .ok q ∧ R q by
      rw [hR] at hq
      obtain ⟨_, k1, D', v2, v3, v5, v6, v7, v8, v9, v10, v11, v12, rfl⟩ := hq
      exact ⟨_, _, k1, D', v2, v3, v5, v6, v7, v8, v9, v10, v11, v12, rfl, rfl, fun a ha => hlt a (by simp [ha])⟩
    simp (disch := first | omega | (simp only [List.length_map, List.length_append, List.length_cons, List.length_nil, List.length_take, List.length_drop, List.length_reverse, List.length_range', List.length_range] <;> omega) | fail) [runFn, cut_map, cut_to, cut_from, cut_mid, -getElem?_pos, -List.map_take, -List.map_drop, -List.length_flatten, -Prod.exists, tk_map, dr_map, List.getElem?_cons_zero, List.getElem?_cons_succ, forBody, h1, h2, hn, h3, h4, spec_law_cut, hr4]
    refine bnd_exx (loopF_iv (e := fun (n : Nat) => .int n)
      (P := fun r ρ S => ∃ D es v5 v10, ρ = [some (.pv (.scr ns)), some (.loc 0), some (.pv (.int turn)), some (.pv (eW w)), none, v5, v6, some (.pv (.tup (es.map eEd))), some (.pv (.tup ((along w es).map eCut))), some (.pv (eW (lastW w es))), v10, v11, v12] ∧ S = St D [] ∧ Fit w es ∧ (lastW w es).length ≤ 16 + 4 * es.length ∧ es.length + r.length = 4) ?_ (List.range 4) _ _ ⟨D4, [], v5, v10, rfl, rfl, trivial, by simp [lastW]; omega, rfl⟩) ?_
    · rintro j r _ _ ⟨D, es, v5, v10, rfl, rfl, f1, f2, f3⟩
      rw [List.length_cons] at f3
      obtain ⟨a, m, x, D', k1, k2, k3⟩ := spec_edit 57 D (lastW w es).length (by omega)
      have k4 := spec_edit_told 52 (lastW w es) x a m D' (by omega) k3 k2
      have hE := edP_len (lastW w es) a m x
      have hal := along_len es w
      refine ⟨_, _, ?_, D', es ++ [(a, m, x)], some (.pv (.int j)), some (.pv (eE a m x)), rfl, rfl, Fit_snoc es w _ f1 (by omega) (by simp only; omega) k2, by rw [last_snoc, List.length_append, List.length_singleton]; simp only; omega, by rw [List.length_append, List.length_singleton]; omega⟩
      simp (disch := first | omega | (simp only [List.length_map, List.length_append, List.length_cons, List.length_nil, List.length_take, List.length_drop, List.length_reverse, List.length_range', List.length_range] <;> omega) | fail) [runFn, cut_map, cut_to, cut_from, cut_mid, -getElem?_pos, -List.map_take, -List.map_drop, -List.length_flatten, -Prod.exists, tk_map, dr_map, List.getElem?_cons_zero, List.getElem?_cons_succ, forBody, k1, k4, spec_law_edited, spec_law_cut, along_snoc, last_snoc]
    rintro _ ⟨_, _, rfl, D5, es, v5, v10, rfl, rfl, f1, f2, f3⟩
    rw [List.length_nil] at f3
    have hma := spec_along 54 w es (St D5 []) (by omega) (by omega) f1
    have hal := along_len es w
    simp (disch := first | omega | (simp only [List.length_map, List.length_append, List.length_cons, List.length_nil, List.length_take, List.length_drop, List.length_reverse, List.length_range', List.length_range] <;> omega) | fail) [runFn, cut_map, cut_to, cut_from, cut_mid, -getElem?_pos, -List.map_take, -List.map_drop, -List.length_flatten, -Prod.exists, tk_map, dr_map, List.getElem?_cons_zero, List.getElem?_cons_succ, hma]
    have hdat : Dat 3 (.tup ((along w es).map eCut)) := by
      refine Dat_map (by omega) ?_
      intro u hu
      apply Dat_cut
      have := along_le es w f1 (by omega) u hu
      omega
    rw [hs _ _ (Dat_le hdat (by omega))]
    obtain ⟨t3, D6, h6, g6⟩ := spec_take 58 D5 [] 9 (by omega)
    obtain ⟨o, D7, h7, ho⟩ := spec_word 57 D6 t3 (by omega)
    simp (disch := first | omega | (simp only [List.length_map, List.length_append, List.length_cons, List.length_nil, List.length_take, List.length_drop, List.length_reverse, List.length_range', List.length_range] <;> omega) | fail) [runFn, cut_map, cut_to, cut_from, cut_mid, -getElem?_pos, -List.map_take, -List.map_drop, -List.length_flatten, -Prod.exists, tk_map, dr_map, List.getElem?_cons_zero, List.getElem?_cons_succ, h6, h7]
    have hpair : [PV.tup [eW w, eW o], PV.tup [eW w, eW w], PV.tup [eW w, PV.tup (List.map PV.int w ++ List.map PV.int o)],
              PV.tup [eW w, PV.tup (List.map PV.int o ++ List.map PV.int w)],
              PV.tup [PV.tup (List.map PV.int w ++ List.map PV.int o), eW o], PV.tup [PV.tup [], eW o]] = [(w, o), (w, w), (w, w ++ o), (w, o ++ w), (w ++ o, o), ([], o)].map eP2 := by simp
    rw [hpair]
    refine bnd_exx (loopF_iv (e := eP2)
      (P := fun r ρ S => ∃ v11 v12, ρ = [some (.pv (.scr ns)), some (.loc 0), some (.pv (.int turn)), some (.pv (eW w)), none, v5, some (.pv (eW o)), some (.pv (.tup (List.map eEd es))), some (.pv (.tup (List.map eCut (along w es)))), some (.pv (eW (lastW w es))), v10, v11, v12] ∧ S = St D7 [] ∧ ∀ p ∈ r, p.1.length ≤ 50 ∧ p.2.length ≤ 50) ?_ _ _ _ ⟨v11, v12, rfl, rfl, by
        intro p hp
        simp at hp
        rcases hp with rfl | rfl | rfl | rfl | rfl | rfl <;> simp <;> omega⟩) ?_
    · rintro ⟨p, q⟩ r _ _ ⟨v11, v12, rfl, rfl, hp⟩
      have hpq := hp (p, q) (by simp)
      dsimp only at hpq
      have p5 := spec_law_eb PV.int (EqOk_tup (Cl_int 59)) 58 p q (St D7 []) (by omega) (by omega)
      refine ⟨_, _, ?_, some (.pv (eW p)), some (.pv (eW q)), rfl, rfl, fun u hu => hp u (by simp [hu])⟩
      simp (disch := first | omega | (simp only [List.length_map, List.length_append, List.length_cons, List.length_nil, List.length_take, List.length_drop, List.length_reverse, List.length_range', List.length_range] <;> omega) | fail) [runFn, cut_map, cut_to, cut_from, cut_mid, -getElem?_pos, -List.map_take, -List.map_drop, -List.length_flatten, -Prod.exists, tk_map, dr_map, List.getElem?_cons_zero, List.getElem?_cons_succ, forBody, spec_edit_between, p5]
      rw [hs _ _ (Dat_le (Dat_eE (by simp; omega)) (by omega))]
      simp (disch := first | omega | (simp only [List.length_map, List.length_append, List.length_cons, List.length_nil, List.length_take, List.length_drop, List.length_reverse, List.length_range', List.length_range] <;> omega) | fail) [runFn, cut_map, cut_to, cut_from, cut_mid, -getElem?_pos, -List.map_take, -List.map_drop, -List.length_flatten, -Prod.exists, tk_map, dr_map, List.getElem?_cons_zero, List.getElem?_cons_succ]
    rintro _ ⟨_, _, rfl, v11, v12, rfl, rfl, _⟩
    simp (disch := first | omega | (simp only [List.length_map, List.length_append, List.length_cons, List.length_nil, List.length_take, List.length_drop, List.length_reverse, List.length_range', List.length_range] <;> omega) | fail) [runFn, cut_map, cut_to, cut_from, cut_mid, -getElem?_pos, -List.map_take, -List.map_drop, -List.length_flatten, -Prod.exists, tk_map, dr_map, List.getElem?_cons_zero, List.getElem?_cons_succ]
    rw [hR]
    exact ⟨D7, _, _, _, _, _, _, _, _, _, _, rfl⟩
  · rintro _ ⟨_, _, rfl, D, v2, v3, v5, v6, v7, v8, v9, v10, v11, v12, rfl, rfl, _⟩
    have hc : lc [0, 1, 1, 0, 1, 0, 0, 1, 0] = [[0, 1, 1], [0, 1], [0, 0, 1], [0]] := by decide
    have hlcn : lc [] = [] := rfl
    have a1 := spec_words_kept 57 [[0, 1, 1], [0, 1], [0, 0, 1], [0]] [] 4 1 (St D []) (by decide)
    have a2 := spec_pieces' 56 [0, 1, 1, 0, 1, 0, 0, 1, 0] [1, 1] 4 1 (St D []) (by decide) (by decide) (by decide)
    have a3 := spec_mended 55 [0, 1, 1, 0, 1, 0, 0, 1, 0] [1, 1] 4 1 (St D []) (by decide) (by decide) (by decide)
    have a4 := spec_joins 54 [0, 1, 1, 0, 1, 0, 0, 1, 0] [1, 1] 4 1 (St D []) (by decide) (by decide) (by decide)
    have a5 := spec_words_kept 57 [[0, 1, 1], [0, 1], [0, 0, 1], [0]] [1] 3 0 (St D []) (by decide)
    have a6 := spec_mended 55 [0, 1, 1, 0, 1, 0, 0, 1, 0] [1] 3 0 (St D []) (by decide) (by decide) (by decide)
    have a7 := spec_mended 55 [0, 1, 1, 0, 1, 0, 0, 1, 0] [] 0 9 (St D []) (by decide) (by decide) (by decide)
    have a8 := spec_alike 58 [[0, 1, 1], [0, 1], [0, 0, 1], [0]] [[0, 1, 1], [0, 1], [0, 0, 1], [0]] (St D [])
    have a9 := spec_alike 58 [[0, 1, 1], [0, 1], [0, 0, 1], [0]] [[0, 1], [0, 0, 1], [0]] (St D [])
    have b1 := spec_alike 58 [[0, 1, 1], [0, 1], [0, 0, 1], [0], [0]] [[0, 1, 1], [0, 1], [0, 0, 1], [0]] (St D [])
    have b2 := spec_edit_between 58 [0, 1, 0, 1] [0, 1] (St D [])
    have b3 := spec_along 54 [0, 1, 1, 0, 1, 0, 0, 1, 0] [] (St D []) (by decide) (by decide) trivial
    have b4 := spec_ends 58 [[0, 1, 1], [0, 1], [0, 0, 1], [0]] (St D []) (by decide)
    have b5 := spec_ends 58 [] (St D []) (by decide)
    have b6 := spec_fallen 57 [] (St D []) (by decide) (by decide) (by simp)
    have b7 := spec_mended 55 [] [0, 1] 0 0 (St D []) (by decide) (by decide) (by decide)
    have b8 := spec_edit_between 58 [] [] (St D [])
    rw [show nA [[0, 1, 1], [0, 1], [0, 0, 1], [0]] 4 = 1 by decide, show nB [[0, 1, 1], [0, 1], [0, 0, 1], [0]] 4 1 = 2 by decide] at a1
    rw [hc, show pcs [[0, 1, 1], [0, 1], [0, 0, 1], [0]] 4 1 [1, 1] = [[0, 1, 1], [0], [1], [1], [0, 0, 1], [0]] by decide] at a2
    rw [hc, show lc (edP [0, 1, 1, 0, 1, 0, 0, 1, 0] 4 1 [1, 1]) = [[0, 1, 1], [0, 1, 1], [0, 0, 1], [0]] by decide] at a3
    rw [hc, show pcs [[0, 1, 1], [0, 1], [0, 0, 1], [0]] 4 1 [1, 1] = [[0, 1, 1], [0], [1], [1], [0, 0, 1], [0]] by decide, show lc (edP [0, 1, 1, 0, 1, 0, 0, 1, 0] 4 1 [1, 1]) = [[0, 1, 1], [0, 1, 1], [0, 0, 1], [0]] by decide] at a4
    rw [show nA [[0, 1, 1], [0, 1], [0, 0, 1], [0]] 3 = 1 by decide, show nB [[0, 1, 1], [0, 1], [0, 0, 1], [0]] 3 0 = 3 by decide] at a5
    rw [hc, show lc (edP [0, 1, 1, 0, 1, 0, 0, 1, 0] 3 0 [1]) = [[0, 1, 1, 1], [0, 1], [0, 0, 1], [0]] by decide] at a6
    rw [hc, show lc (edP [0, 1, 1, 0, 1, 0, 0, 1, 0] 0 9 []) = [] by decide] at a7
    rw [show lcp ([[0, 1, 1], [0, 1], [0, 0, 1], [0]] : List W) [[0, 1, 1], [0, 1], [0, 0, 1], [0]] = 4 by decide, show ebE ([[0, 1, 1], [0, 1], [0, 0, 1], [0]] : List W) [[0, 1, 1], [0, 1], [0, 0, 1], [0]] = 0 by decide] at a8
    rw [show lcp ([[0, 1, 1], [0, 1], [0, 0, 1], [0]] : List W) [[0, 1], [0, 0, 1], [0]] = 0 by decide, show ebE ([[0, 1, 1], [0, 1], [0, 0, 1], [0]] : List W) [[0, 1], [0, 0, 1], [0]] = 3 by decide] at a9
    rw [show lcp ([[0, 1, 1], [0, 1], [0, 0, 1], [0], [0]] : List W) [[0, 1, 1], [0, 1], [0, 0, 1], [0]] = 4 by decide, show ebE ([[0, 1, 1], [0, 1], [0, 0, 1], [0], [0]] : List W) [[0, 1, 1], [0, 1], [0, 0, 1], [0]] = 0 by decide] at b1
    rw [hlcn, show lc (edP [] 0 0 [0, 1]) = [[0, 1]] by decide] at b7
    rw [show fal [] = [] by decide] at b6
    have e1 : eB PV.int [0, 1, 0, 1] [0, 1] = .tup [.int 2, .int 2, .tup []] := by
      have h1 : lcp [(0 : Int), 1, 0, 1] [0, 1] = 2 := by decide
      have h2 : ebE [(0 : Int), 1, 0, 1] [0, 1] = 0 := by decide
      simp [eB, h1, h2]
    have e2 : eB PV.int [] [] = .tup [.int 0, .int 0, .tup []] := by
      have h1 : lcp ([] : List Int) [] = 0 := by decide
      have h2 : ebE ([] : List Int) [] = 0 := by decide
      simp [eB, h1, h2]
    rw [e1] at b2
    rw [e2] at b8
    simp [along, eCut, hc, eC, eW] at b3
    simp [endsP, eC, eW] at b4 b5
    simp [eC, eW, eE] at a1 a2 a3 a4 a5 a6 a7 a8 a9 b1 b2 b6 b7 b8
    simp (disch := first | omega | (simp only [List.length_map, List.length_append, List.length_cons, List.length_nil, List.length_take, List.length_drop, List.length_reverse, List.length_range', List.length_range] <;> omega) | fail) [runFn, cut_map, cut_to, cut_from, cut_mid, -getElem?_pos, -List.map_take, -List.map_drop, -List.length_flatten, -Prod.exists, tk_map, dr_map, List.getElem?_cons_zero, List.getElem?_cons_succ, a1, a2, a3]
    rw [hs _ _ ?d1]
    case d1 => exact datB_ok rfl
    simp (disch := first | omega | (simp only [List.length_map, List.length_append, List.length_cons, List.length_nil, List.length_take, List.length_drop, List.length_reverse, List.length_range', List.length_range] <;> omega) | fail) [runFn, cut_map, cut_to, cut_from, cut_mid, -getElem?_pos, -List.map_take, -List.map_drop, -List.length_flatten, -Prod.exists, tk_map, dr_map, List.getElem?_cons_zero, List.getElem?_cons_succ, a4, a5, a6, a7]
    rw [hs _ _ ?d2]
    case d2 => exact datB_ok rfl
    simp (disch := first | omega | (simp only [List.length_map, List.length_append, List.length_cons, List.length_nil, List.length_take, List.length_drop, List.length_reverse, List.length_range', List.length_range] <;> omega) | fail) [runFn, cut_map, cut_to, cut_from, cut_mid, -getElem?_pos, -List.map_take, -List.map_drop, -List.length_flatten, -Prod.exists, tk_map, dr_map, List.getElem?_cons_zero, List.getElem?_cons_succ, a8, a9, b1, b2]
    rw [hs _ _ ?d3]
    case d3 => exact datB_ok rfl
    simp (disch := first | omega | (simp only [List.length_map, List.length_append, List.length_cons, List.length_nil, List.length_take, List.length_drop, List.length_reverse, List.length_range', List.length_range] <;> omega) | fail) [runFn, cut_map, cut_to, cut_from, cut_mid, -getElem?_pos, -List.map_take, -List.map_drop, -List.length_flatten, -Prod.exists, tk_map, dr_map, List.getElem?_cons_zero, List.getElem?_cons_succ, b3, b4, b5, b6, b7, b8]
    rw [hs _ _ ?d4]
    case d4 => exact datB_ok rfl
    rw [hQ]
    simp (disch := first | omega | (simp only [List.length_map, List.length_append, List.length_cons, List.length_nil, List.length_take, List.length_drop, List.length_reverse, List.length_range', List.length_range] <;> omega) | fail) [runFn, cut_map, cut_to, cut_from, cut_mid, -getElem?_pos, -List.map_take, -List.map_drop, -List.length_flatten, -Prod.exists, tk_map, dr_map, List.getElem?_cons_zero, List.getElem?_cons_succ]
end RS

open PySem PySem.W PyProof.Rows
set_option maxHeartbeats 0 in
theorem PySem.Challenge.cw_roundshapes_k75_cuts_mended_holds : PySem.Challenge.rw_roundshapes_k75_cuts_mended.Holds := by
  w_on; o_law; k_head; (case hw => w_witness2)
  k_fill
  refine L2.walk_of (l := PySem.Challenge.rw_roundshapes_k75_cuts_mended) (n := 63) (k := 60) (x := "script") (CX := fun _ => L2.CX0) (sp := fun w => RS.spLaw _) rfl (by decide) rfl ⟨rfl, by decide, by decide⟩ (fun w h Y => PySem.W.kIn_of Y) ?F (fun _ _ a ns hl _ hS => ⟨a, ns, rfl, hS, hl, fun _ => rfl⟩) (fun _ _ _ _ _ h => h)
  case F =>
    intro w mg fa h KX G hmg
    refine' RS.all_mk KX G hmg RS.law_true ?a0 ?l0 ?c0 ?k0 ?a1 ?l1 ?c1 ?k1 ?a2 ?l2 ?c2 ?k2 ?a3 ?l3 ?c3 ?k3 ?a4 ?l4 ?c4 ?k4 ?a5 ?l5 ?c5 ?k5 ?a6 ?l6 ?c6 ?k6 ?a7 ?l7 ?c7 ?k7 ?a8 ?l8 ?c8 ?k8 ?a9 ?l9 ?c9 ?k9 ?a10 ?l10 ?c10 ?k10 ?a11 ?l11 ?c11 ?k11 ?a12 ?l12 ?c12 ?k12 ?a13 ?l13 ?c13 ?k13 ?a14 ?l14 ?c14 ?k14 ?a15 ?l15 ?c15 ?k15 ?a16 ?l16 ?c16 ?k16 ?a17 ?l17 ?c17 ?k17 ?a18 ?l18 ?c18 ?k18 ?a19 ?l19 ?c19 ?k19 ?a20 ?l20 ?c20 ?k20 ?a21 ?l21 ?c21 ?k21 ?a22 ?l22 ?c22 ?k22 ?a23 ?l23 ?c23 ?k23 ?a24 ?l24 ?c24 ?k24 ?a25 ?l25 ?c25 ?k25 ?a26 ?l26 ?c26 ?k26 ?a27 ?l27 ?c27 ?k27 ?a28 ?l28 ?c28 ?k28 ?z0 ?z1 ?z2 ?z3 ?z4 ?z5 ?z6 ?z7 ?z8 ?z9 ?z10 ?z11 ?z12 ?z13
    (case a0 => k_is); (case l0 => k_is); (case c0 => k_is); (case k0 => k_is); (case a1 => k_is); (case l1 => k_is); (case c1 => k_is); (case k1 => k_is); (case a2 => k_is); (case l2 => k_is); (case c2 => k_is); (case k2 => k_is); (case a3 => k_is); (case l3 => k_is); (case c3 => k_is); (case k3 => k_is); (case a4 => k_is); (case l4 => k_is); (case c4 => k_is); (case k4 => k_is); (case a5 => k_is); (case l5 => k_is); (case c5 => k_is); (case k5 => k_is); (case a6 => k_is); (case l6 => k_is); (case c6 => k_is); (case k6 => k_is); (case a7 => k_is); (case l7 => k_is); (case c7 => k_is); (case k7 => k_is); (case a8 => k_is); (case l8 => k_is); (case c8 => k_is); (case k8 => k_is); (case a9 => k_is); (case l9 => k_is); (case c9 => k_is); (case k9 => k_is); (case a10 => k_is); (case l10 => k_is); (case c10 => k_is); (case k10 => k_is); (case a11 => k_is); (case l11 => k_is); (case c11 => k_is); (case k11 => k_is); (case a12 => k_is); (case l12 => k_is); (case c12 => k_is); (case k12 => k_is); (case a13 => k_is); (case l13 => k_is); (case c13 => k_is); (case k13 => k_is); (case a14 => k_is); (case l14 => k_is); (case c14 => k_is); (case k14 => k_is); (case a15 => k_is); (case l15 => k_is); (case c15 => k_is); (case k15 => k_is); (case a16 => k_is); (case l16 => k_is); (case c16 => k_is); (case k16 => k_is); (case a17 => k_is); (case l17 => k_is); (case c17 => k_is); (case k17 => k_is); (case a18 => k_is); (case l18 => k_is); (case c18 => k_is); (case k18 => k_is); (case a19 => k_is); (case l19 => k_is); (case c19 => k_is); (case k19 => k_is); (case a20 => k_is); (case l20 => k_is); (case c20 => k_is); (case k20 => k_is); (case a21 => k_is); (case l21 => k_is); (case c21 => k_is); (case k21 => k_is); (case a22 => k_is); (case l22 => k_is); (case c22 => k_is); (case k22 => k_is); (case a23 => k_is); (case l23 => k_is); (case c23 => k_is); (case k23 => k_is); (case a24 => k_is); (case l24 => k_is); (case c24 => k_is); (case k24 => k_is); (case a25 => k_is); (case l25 => k_is); (case c25 => k_is); (case k25 => k_is); (case a26 => k_is); (case l26 => k_is); (case c26 => k_is); (case k26 => k_is); (case a27 => k_is); (case l27 => k_is); (case c27 => k_is); (case k27 => k_is); (case a28 => k_is); (case l28 => k_is); (case c28 => k_is); (case k28 => k_is); (case z0 => k_is); (case z1 => k_is); (case z2 => k_is); (case z3 => k_is); (case z4 => k_is); (case z5 => k_is); (case z6 => k_is); (case z7 => k_is); (case z8 => k_is); (case z9 => k_is); (case z10 => k_is); (case z11 => k_is); (case z12 => k_is); (case z13 => k_is)
