import PyProof.Rows.All
import Wide.All
import OpenK.AllK
import Wide.FinOn
import HandS.ForExc
import HandS.Comp
import HandS.TupAny
import HandS.Rev
import HandS.Style
import HandS.IsInst
import HandS.ExcIs
import HandS.Deep
import HandS.ExcValue
import HandS.EndBits
import PySem.Challenge.RW_neverbelow_k11_whole_parts_of_any_curves
set_option Elab.async false
set_option linter.all false
set_option maxRecDepth 100000
set_option linter.all false
/-! G1: the evaluator. -/
namespace G
open PySem

inductive Val where
  | non | bl (b : Bool) | int (i : Int) | str (s : Str) | tup (xs : List Val) | lst (xs : List Val) | exc (c : Nat) | scr (ns : List Int)
  deriving Inhabited, Repr

inductive R (α : Type) where
  | ok (a : α) | exc (c : Nat) | bad
  deriving Repr
namespace R
def bind {α β : Type} : R α → (α → R β) → R β
  | ok a, f => f a
  | exc c, _ => exc c
  | bad, _ => bad
def map {α β : Type} (f : α → β) : R α → R β
  | ok a => ok (f a)
  | exc c => exc c
  | bad => bad
def noexc {α : Type} : R α → R α
  | ok a => ok a
  | _ => bad
def guard (b : Bool) : R Unit := if b then ok () else bad
@[simp] theorem bind_ok {α β : Type} (a : α) (f : α → R β) : (R.ok a).bind f = f a := rfl
@[simp] theorem bind_exc {α β : Type} (c : Nat) (f : α → R β) : (R.exc c : R α).bind f = .exc c := rfl
@[simp] theorem bind_bad {α β : Type} (f : α → R β) : (R.bad : R α).bind f = .bad := rfl
@[simp] theorem map_ok {α β : Type} (a : α) (f : α → β) : R.map f (R.ok a) = .ok (f a) := rfl
@[simp] theorem map_exc {α β : Type} (c : Nat) (f : α → β) : R.map f (R.exc c : R α) = .exc c := rfl
@[simp] theorem map_bad {α β : Type} (f : α → β) : R.map f (R.bad : R α) = .bad := rfl
@[simp] theorem noexc_ok {α : Type} (a : α) : (R.ok a).noexc = .ok a := rfl
@[simp] theorem guard_true : R.guard true = .ok () := rfl
theorem map_bind {α β γ : Type} (r : R α) (f : α → R β) (g : β → γ) : (r.bind f).map g = r.bind fun a => (f a).map g := by cases r <;> rfl
theorem bind_assoc {α β γ : Type} (r : R α) (f : α → R β) (g : β → R γ) : (r.bind f).bind g = r.bind fun a => (f a).bind g := by cases r <;> rfl
theorem map_map {α β γ : Type} (r : R α) (f : α → β) (g : β → γ) : (r.map f).map g = r.map fun a => g (f a) := by cases r <;> rfl
theorem bind_map {α β γ : Type} (r : R α) (f : α → β) (g : β → R γ) : (r.map f).bind g = r.bind fun a => g (f a) := by cases r <;> rfl
theorem bind_eq_ok {α β : Type} {r : R α} {f : α → R β} {b : β} (h : r.bind f = .ok b) : ∃ a, r = .ok a ∧ f a = .ok b := by
  cases r with
  | ok a => exact ⟨a, rfl, h⟩
  | exc c => cases h
  | bad => cases h
end R

/-! ### data -/
mutual
def dat : Val → PyData
  | .non => .none
  | .bl b => .bool b
  | .int i => .int i
  | .str s => .str s
  | .tup xs => .tuple (dats xs)
  | .lst xs => .list (dats xs)
  | .exc _ => .none
  | .scr _ => .none
def dats : List Val → List PyData
  | [] => []
  | x :: xs => dat x :: dats xs
end
mutual
/-- no caught error within -/
def isD : Val → Bool
  | .tup xs => isDs xs
  | .lst xs => isDs xs
  | .exc _ => false
  | .scr _ => false
  | _ => true
def isDs : List Val → Bool
  | [] => true
  | x :: xs => isD x && isDs xs
end
mutual
/-- no list within -/
def noL : Val → Bool
  | .tup xs => noLs xs
  | .lst _ => false
  | _ => true
def noLs : List Val → Bool
  | [] => true
  | x :: xs => noL x && noLs xs
end
def okD (v : Val) : Bool := isD v && SeqAt.shaped (dat v)
def isLst : Val → Bool
  | .lst _ => true
  | _ => false

/-! ### syntax -/
inductive BOp where
  | add | sub | mul | fdiv | mod | pow | band | shr
  deriving DecidableEq, Repr
inductive COp where
  | lt | le | gt | ge | eq | ne
  deriving DecidableEq, Repr
inductive Bf where
  | len | abs | max2 | min2 | int | list | tuple | maxL | minL | cnt | idx
  deriving DecidableEq, Repr
inductive Cl where
  | ty (n : String) | own (c : Nat)
  deriving DecidableEq, Repr
inductive Tg where
  | one (i : Nat) | tup (is : List Nat)
  deriving DecidableEq, Repr
mutual
inductive E where
  | nm (i : Nat) | bor (i : Nat) | cst (v : Val)
  | bin (o : BOp) (a b : E) | neg (a : E)
  | cmp (o : COp) (a b : E) | isn (n : Bool) (a : E) | chn (o o' : COp) (a b c : E)
  | inn (n : Bool) (a b : E)
  | and (a b : E) | or (a b : E) | not (a : E) | ifx (c a b : E)
  | ix (a b : E) | slc (a : E) (lo hi : Option E) | rev (a : E)
  | tup (as : List E) | lst (as : List E)
  | call (f : Nat) (as : List E) | blt (f : Bf) (as : List E) | isi (a : E) (cs : List Cl)
  | lc (tg : Tg) (it : It) (cond : Option E) (el : E)
  deriving Repr
inductive It where
  | val (e : E) | rng1 (a : E) | rng2 (a b : E) | rvd (e : E)
  deriving Repr
end
inductive S where
  | set (i : Nat) (e : E)
  | par (i j : Nat) (a b : E)
  | par3 (i j k : Nat) (a b c : E)
  | unp (is : List Nat) (e : E)
  | six (i : Nat) (k e : E)
  | app (i : Nat) (e : E)
  | pop (i : Nat)
  | popu (is : List Nat) (i : Nat)
  | rev (i : Nat)
  | ret (e : E) | retn
  | ifs (c : E) (a b : List S)
  | whl (c : E) (b : List S)
  | for (tg : Tg) (it : It) (b : List S)
  | exp (e : E)
  | rse (c : Nat)
  | trya (b : List S) (c : Nat) (n : Nat) (h : List S)
  | pass
  deriving Repr

abbrev Env := List (Option (Val × Bool))

/-! ### operations on values -/
def LIM : Nat := 1000000
def mulOk (i j : Int) : Bool := decide (i.natAbs.log2 + j.natAbs.log2 < 134000000)
def powOk (i j : Int) : Bool := decide (0 ≤ j ∧ j ≤ 1000000 ∧ i.natAbs < 2 ^ 64)
def lenOk (n : Nat) : Bool := decide (n ≤ LIM)
def evBin : BOp → Val → Val → R Val
  | .add, .int i, .int j => .ok (.int (i + j))
  | .add, .lst xs, .lst ys => if lenOk (xs.length + ys.length) then .ok (.lst (xs ++ ys)) else .bad
  | .add, .tup xs, .tup ys => if lenOk (xs.length + ys.length) then .ok (.tup (xs ++ ys)) else .bad
  | .sub, .int i, .int j => .ok (.int (i - j))
  | .mul, .int i, .int j => if mulOk i j then .ok (.int (i * j)) else .bad
  | .mul, .lst xs, .int k => if lenOk (xs.length * k.toNat) && decide (-1000000 ≤ k ∧ k ≤ 1000000) then .ok (.lst (List.replicate k.toNat xs).flatten) else .bad
  | .fdiv, .int i, .int j => if j = 0 then .bad else .ok (.int (i.fdiv j))
  | .mod, .int i, .int j => if j = 0 then .bad else .ok (.int (i.fmod j))
  | .pow, .int i, .int j => if powOk i j then .ok (.int (i ^ j.toNat)) else .bad
  | .band, .int i, .int j => .ok (.int (Builtin.bitAnd i j))
  | .shr, .int i, .int j => if 0 ≤ j then .ok (.int (i / 2 ^ j.toNat)) else .bad
  | _, _, _ => .bad
def evCmp : COp → Val → Val → R Val
  | .lt, .int i, .int j => .ok (.bl (decide (i < j)))
  | .le, .int i, .int j => .ok (.bl (decide (i ≤ j)))
  | .gt, .int i, .int j => .ok (.bl (decide (j < i)))
  | .ge, .int i, .int j => .ok (.bl (decide (j ≤ i)))
  | .eq, a, b => if okD a && okD b then .ok (.bl (PyData.eqv (dat a) (dat b))) else .bad
  | .ne, a, b => if okD a && okD b then .ok (.bl (!PyData.eqv (dat a) (dat b))) else .bad
  | _, _, _ => .bad
def isNon : Val → Bool
  | .non => true
  | _ => false
def flat : Val → Bool
  | .non => true
  | .bl _ => true
  | .int _ => true
  | .str _ => true
  | _ => false
def toV : Val → L2.V
  | .non => .non
  | .bl b => .bl b
  | .int i => .int i
  | .str s => .str s
  | _ => .non
def evIn (n : Bool) (x : Val) : Val → R Val
  | .lst xs => if flat x && xs.all flat then .ok (.bl (if n then !L2.inV (toV x) (xs.map toV) else L2.inV (toV x) (xs.map toV)))
    else if okD x && okD (.lst xs) && Nat.ble (dat x).depth 32 then .ok (.bl (if n then !((dats xs).any fun z => PyData.eqv z (dat x)) else (dats xs).any fun z => PyData.eqv z (dat x))) else .bad
  | .tup xs => if flat x && xs.all flat then .ok (.bl (if n then !L2.inV (toV x) (xs.map toV) else L2.inV (toV x) (xs.map toV))) else .bad
  | _ => .bad
def truth : Val → R Bool
  | .non => .ok false
  | .bl b => .ok b
  | .int i => .ok (i != 0)
  | .tup xs => .ok (!xs.isEmpty)
  | .lst xs => .ok (!xs.isEmpty)
  | .scr xs => .ok (!xs.isEmpty)
  | _ => .bad
def toB : Val → R Bool
  | .bl b => .ok b
  | _ => .bad
def ofO {α : Type} : Option α → R α
  | some a => .ok a
  | none => .bad
def evIx : Val → Val → R Val
  | .lst xs, .int i => ofO (L2.atI xs i)
  | .tup xs, .int i => ofO (L2.atI xs i)
  | .scr ns, .int i => ofO ((L2.atI ns i).map .int)
  | _, _ => .bad
def cut {α : Type} (xs : List α) (lo hi : Option Int) : List α := (xs.drop (HT.sIx xs.length 0 lo)).take (HT.sIx xs.length xs.length hi - HT.sIx xs.length 0 lo)
def evSlc (lo hi : Option Int) : Val → R Val
  | .lst xs => .ok (.lst (cut xs lo hi))
  | .tup xs => .ok (.tup (cut xs lo hi))
  | _ => .bad
def evRev : Val → R Val
  | .lst xs => .ok (.lst xs.reverse)
  | .tup xs => .ok (.tup xs.reverse)
  | _ => .bad
def toI : Val → R Int
  | .int i => .ok i
  | _ => .bad
def intsOf : List Val → Option (List Int)
  | [] => some []
  | .int i :: r => (intsOf r).map (i :: ·)
  | _ :: _ => none
def maxI : List Int → Int
  | [] => 0
  | [a] => a
  | a :: b :: r => if maxI (b :: r) > a then maxI (b :: r) else a
def minI : List Int → Int
  | [] => 0
  | [a] => a
  | a :: b :: r => if minI (b :: r) < a then minI (b :: r) else a
def evB1 : Bf → Val → R Val
  | .len, .lst xs => .ok (.int xs.length)
  | .len, .tup xs => .ok (.int xs.length)
  | .len, .scr xs => .ok (.int xs.length)
  | .abs, .int i => .ok (.int (if i < 0 then -i else i))
  | .int, .int i => .ok (.int i)
  | .int, .bl k => .ok (.int (if k then 1 else 0))
  | .list, .lst xs => .ok (.lst xs)
  | .list, .tup xs => .ok (.lst xs)
  | .list, .scr ns => .ok (.lst (ns.map .int))
  | .tuple, .lst xs => .ok (.tup xs)
  | .tuple, .tup xs => .ok (.tup xs)
  | .maxL, .lst xs => (match intsOf xs with
    | some (a :: r) => .ok (.int (maxI (a :: r)))
    | _ => .bad)
  | .minL, .lst xs => (match intsOf xs with
    | some (a :: r) => .ok (.int (minI (a :: r)))
    | _ => .bad)
  | _, _ => .bad
def evB2 : Bf → Val → Val → R Val
  | .max2, .int i, .int j => .ok (.int (if j > i then j else i))
  | .min2, .int i, .int j => .ok (.int (if j < i then j else i))
  | .cnt, .lst xs, .bl b => if okD (.lst xs) then .ok (.int ((dats xs).countP fun z => PyData.eqv z (.bool b) : Nat)) else .bad
  | .idx, .lst xs, .bl b => if okD (.lst xs) then (match (dats xs).findIdx? fun z => PyData.eqv z (.bool b) with
    | some j => .ok (.int (j : Nat))
    | none => .bad) else .bad
  | _, _, _ => .bad
def evBf (f : Bf) : List Val → R Val
  | [x] => evB1 f x
  | [x, y] => evB2 f x y
  | _ => .bad
/-- the name of a value's built-in type -/
def tyOf : Val → Option String
  | .non => some "NoneType"
  | .bl _ => some "bool"
  | .int _ => some "int"
  | .str _ => some "str"
  | .tup _ => some "tuple"
  | .lst _ => some "list"
  | .exc _ => none
  | .scr _ => some "list"
/-- is a built-in type T one of the types of a value of type t -/
def tySub (t T : String) : Option Bool :=
  if T = "int" then some (t == "int" || t == "bool")
  else if T = "bool" then some (t == "bool")
  else if T = "tuple" then some (t == "tuple")
  else if T = "list" then some (t == "list")
  else if T = "str" then some (t == "str")
  else if T = "ValueError" then some false
  else none
/-- the error classes: 0 is the base of all others, which are apart; all are ValueErrors -/
def excSub (c d : Nat) : Bool := decide (d = 0 ∨ c = d)
def isi1 (v : Val) : Cl → R Bool
  | .ty T => match v with
    | .exc _ => if T = "ValueError" then .ok true else if T = "tuple" ∨ T = "list" ∨ T = "int" ∨ T = "bool" ∨ T = "str" then .ok false else .bad
    | _ => match tyOf v with
      | some t => ofO (tySub t T)
      | none => .bad
  | .own d => match v with
    | .exc c => .ok (excSub c d)
    | _ => .ok false
def isiA (v : Val) : List Cl → R Bool
  | [] => .ok false
  | c :: cs => (isi1 v c).bind fun b => if b then .ok true else isiA v cs
def look (env : Env) (i : Nat) : R Val := match env[i]? with
  | some (some (v, _)) => .ok v
  | _ => .bad
def lookF (env : Env) (i : Nat) : R Val := match env[i]? with
  | some (some (v, false)) => .ok v
  | _ => .bad
/-- an operand: it is looked at, and not kept -/
def opd (env : Env) (e : E) (r : R (Val × Bool)) : R Val := match e with
  | .bor i => look env i
  | _ => r.map (·.1)
def put (env : Env) (i : Nat) (v : Val) (own : Bool) : Env := env.set i (some (v, own))
def putAll (env : Env) : List Nat → List Val → R Env
  | [], [] => .ok env
  | i :: is, v :: vs => putAll (put env i v false) is vs
  | _, _ => .bad
def bindT (tg : Tg) (env : Env) (v : Val) : R Env := match tg with
  | .one i => .ok (put env i v false)
  | .tup is => match v with
    | .tup vs => if vs.length = is.length then putAll env is vs else .bad
    | _ => .bad
def tgs : Tg → List Nat
  | .one i => [i]
  | .tup is => is
def wipeE (env : Env) : List Nat → Env
  | [] => env
  | v :: vs => (wipeE env vs).set v none
def rngV (lo : Int) (n : Nat) : List Val := (List.range n).map fun (i : Nat) => .int (lo + i)
def itemsOf : Val → R (List Val)
  | .lst xs => .ok xs
  | .tup xs => .ok xs
  | _ => .bad
def lcLoop (tg : Tg) (env : Env) (c : Env → R Bool) (f : Env → R Val) : List Val → R (List Val)
  | [] => .ok []
  | x :: xs => (bindT tg env x).bind fun env' => (c env').bind fun b =>
    if b then (f env').bind fun v => (lcLoop tg env c f xs).bind fun vs => .ok (v :: vs) else lcLoop tg env c f xs
/-- the forms whose list is always a new one -/
def newForm : E → Bool
  | .bin _ _ _ => true
  | .slc _ _ _ => true
  | .rev _ => true
  | .lst _ => true
  | .blt _ _ => true
  | .lc _ _ _ _ => true
  | _ => false
def mk (e : E) (v : Val) : Val × Bool := (v, newForm e && isLst v)
def rngOk (n : Int) : Bool := Nat.ble n.natAbs 1000000
theorem rng_ok {n : Int} (h : -1000000 ≤ n ∧ n ≤ 1000000) : rngOk n = true := Nat.ble_eq_true_of_le (by omega)
theorem rng_of {n : Int} (h : rngOk n = true) : -1000000 ≤ n ∧ n ≤ 1000000 := by have := Nat.le_of_ble_eq_true h; omega

section
variable (cl : Nat → List Val → R (Val × Bool))
/-- a call: where a list of one's own was lent, nothing of it may come back -/
def lent (env : Env) : List E → Bool
  | [] => false
  | .bor i :: r => (match env[i]? with | some (some (_, true)) => true | _ => false) || lent env r
  | _ :: r => lent env r
def backOk (p : Val × Bool) : Bool := noL p.1 || (p.2 && match p.1 with | .lst xs => noLs xs | _ => false)
def evCall (env : Env) (f : Nat) (as : List E) (vs : List Val) : R (Val × Bool) :=
  (cl f vs).bind fun p => if lent env as && !backOk p then .bad else .ok p
mutual
def evE : E → Env → R (Val × Bool)
  | .nm i, env => (lookF env i).map (·, false)
  | .bor _, _ => .bad
  | .cst v, _ => .ok (v, false)
  | .bin o a b, env => (opd env a (evE a env)).bind fun x => (opd env b (evE b env)).bind fun y => (evBin o x y).map fun v => (v, isLst v)
  | .neg a, env => (opd env a (evE a env)).bind fun x => (toI x).bind fun i => .ok (.int (-i), false)
  | .cmp o a b, env => (opd env a (evE a env)).bind fun x => (opd env b (evE b env)).bind fun y => (evCmp o x y).map (·, false)
  | .isn n a, env => (opd env a (evE a env)).bind fun x => .ok (.bl (if n then !isNon x else isNon x), false)
  | .chn o o' a b c, env => (opd env a (evE a env)).bind fun x => (opd env b (evE b env)).bind fun y => (evCmp o x y).bind fun z => (toB z).bind fun k =>
      if k then (opd env c (evE c env)).bind fun w => (evCmp o' y w).map (·, false) else .ok (.bl false, false)
  | .inn n a b, env => (opd env a (evE a env)).bind fun x => (opd env b (evE b env)).bind fun y => (evIn n x y).map (·, false)
  | .and a b, env => (opd env a (evE a env)).bind fun x => (toB x).bind fun k => if k then (opd env b (evE b env)).bind fun y => (toB y).bind fun k' => .ok (.bl k', false) else .ok (.bl false, false)
  | .or a b, env => (opd env a (evE a env)).bind fun x => (toB x).bind fun k => if k then .ok (.bl true, false) else (opd env b (evE b env)).bind fun y => (toB y).bind fun k' => .ok (.bl k', false)
  | .not a, env => (opd env a (evE a env)).bind fun x => (toB x).bind fun k => .ok (.bl (!k), false)
  | .ifx c a b, env => (opd env c (evE c env)).bind fun x => (truth x).bind fun k => if k then (evE a env).map fun p => (p.1, false) else (evE b env).map fun p => (p.1, false)
  | .ix a b, env => (opd env a (evE a env)).bind fun x => (opd env b (evE b env)).bind fun y => (evIx x y).map (·, false)
  | .slc a lo hi, env => (opd env a (evE a env)).bind fun x => (evO lo env).bind fun l => (evO hi env).bind fun h => (evSlc l h x).map fun v => (v, isLst v)
  | .rev a, env => (opd env a (evE a env)).bind fun x => (evRev x).map fun v => (v, isLst v)
  | .tup as, env => (evEs as env).bind fun vs => .ok (.tup vs, false)
  | .lst as, env => (evEs as env).bind fun vs => .ok (.lst vs, true)
  | .call f as, env => (evAs as env).bind fun vs => evCall cl env f as vs
  | .blt f as, env => (evAs as env).bind fun vs => (evBf f vs).map fun v => (v, isLst v)
  | .isi a cs, env => (opd env a (evE a env)).bind fun x => (isiA x cs).bind fun b => .ok (.bl b, false)
  | .lc tg it cond el, env => (evIt it env).bind fun xs => if !lenOk xs.length then .bad else (lcLoop tg (wipeE env (tgs tg)) (fun env' => (evC cond env').noexc) (fun env' => ((evE el env').map (·.1)).noexc) xs).bind fun vs => .ok (.lst vs, true)
def evEs : List E → Env → R (List Val)
  | [], _ => .ok []
  | e :: es, env => (evE e env).bind fun p => (evEs es env).bind fun vs => .ok (p.1 :: vs)
/-- arguments: lent -/
def evAs : List E → Env → R (List Val)
  | [], _ => .ok []
  | e :: es, env => (opd env e (evE e env)).bind fun v => (evAs es env).bind fun vs => .ok (v :: vs)
def evO : Option E → Env → R (Option Int)
  | none, _ => .ok none
  | some e, env => (opd env e (evE e env)).bind fun x => (toI x).map some
def evC : Option E → Env → R Bool
  | none, _ => .ok true
  | some e, env => (opd env e (evE e env)).bind fun x => truth x
def evIt : It → Env → R (List Val)
  | .val e, env => (opd env e (evE e env)).bind itemsOf
  | .rng1 a, env => (opd env a (evE a env)).bind fun x => (toI x).bind fun n => if rngOk n then .ok (rngV 0 n.toNat) else .bad
  | .rng2 a b, env => (opd env a (evE a env)).bind fun x => (opd env b (evE b env)).bind fun y => (toI x).bind fun m => (toI y).bind fun n => if rngOk m && rngOk n then .ok (rngV m (n - m).toNat) else .bad
  | .rvd e, env => (opd env e (evE e env)).bind fun x => (itemsOf x).map List.reverse
end
def evT (e : E) (env : Env) : R Bool := (opd env e (evE cl e env)).bind truth

/-! ### statements -/
inductive O where
  | nx (env : Env) | brk (env : Env) | cnt (env : Env) | ret (v : Val) (fr : Bool) | exc (c : Nat) (env : Env) | bad
def rO {α : Type} (env : Env) (r : R α) (f : α → O) : O := match r with
  | .ok a => f a
  | .exc c => .exc c env
  | .bad => .bad
def O.thn (o : O) (f : Env → O) : O := match o with
  | .nx env => f env
  | o => o
def whlN (c : Env → R Bool) (b : Env → O) : Nat → Env → Option O
  | 0, _ => none
  | n + 1, env => match c env with
    | .ok true => match b env with
      | .nx env' => whlN c b n env'
      | .cnt env' => whlN c b n env'
      | .brk env' => some (.nx env')
      | o => some o
    | .ok false => some (.nx env)
    | .exc x => some (.exc x env)
    | .bad => some .bad
open Classical in
noncomputable def whl (c : Env → R Bool) (b : Env → O) (env : Env) : O := if h : ∃ n o, whlN c b n env = some o then Classical.choose (Classical.choose_spec h) else .bad
def forL (tg : Tg) (b : Env → O) : List Val → Env → O
  | [], env => .nx env
  | x :: xs, env => match bindT tg env x with
    | .ok env1 => match b env1 with
      | .nx env' => forL tg b xs env'
      | .cnt env' => forL tg b xs env'
      | .brk env' => .nx env'
      | o => o
    | _ => .bad
/-- the slots of one's own that a value keeps: they are frozen -/
def frz (env : Env) (i : Nat) : Env := match env[i]? with
  | some (some (v, _)) => env.set i (some (v, false))
  | _ => env
def frzAll (env : Env) : List Nat → Env
  | [] => env
  | i :: is => frzAll (frz env i) is
mutual
/-- the names that are read to be kept -/
def kept : E → List Nat
  | .nm i => [i]
  | .bor _ => []
  | .cst _ => []
  | .bin _ a b => kept a ++ kept b
  | .neg a => kept a
  | .cmp _ a b => kept a ++ kept b
  | .isn _ a => kept a
  | .chn _ _ a b c => kept a ++ kept b ++ kept c
  | .inn _ a b => kept a ++ kept b
  | .and a b => kept a ++ kept b
  | .or a b => kept a ++ kept b
  | .not a => kept a
  | .ifx c a b => kept c ++ kept a ++ kept b
  | .ix a b => kept a ++ kept b
  | .slc a lo hi => kept a ++ keptO lo ++ keptO hi
  | .rev a => kept a
  | .tup as => keptL as
  | .lst as => keptL as
  | .call _ as => keptL as
  | .blt _ as => keptL as
  | .isi a _ => kept a
  | .lc _ it c e => keptI it ++ keptO c ++ kept e
def keptL : List E → List Nat
  | [] => []
  | e :: es => kept e ++ keptL es
def keptO : Option E → List Nat
  | none => []
  | some e => kept e
def keptI : It → List Nat
  | .val e => kept e
  | .rng1 a => kept a
  | .rng2 a b => kept a ++ kept b
  | .rvd e => kept e
end
/-- a loop's source is kept, not lent -/
def borI : It → Bool
  | .val (.bor _) => true
  | .rvd (.bor _) => true
  | _ => false
def frzE (env : Env) (e : E) : Env := frzAll env (kept e)
def frzI (env : Env) (it : It) : Env := frzAll env (keptI it)
/-- the list of one's own in a slot -/
def ownL (env : Env) (i : Nat) : R (List Val) := match env[i]? with
  | some (some (.lst xs, true)) => .ok xs
  | _ => .bad
def ixPut (xs : List Val) (k : Int) (v : Val) : R (List Val) := match L2.ixN xs.length k with
  | some j => .ok (xs.set j v)
  | none => .bad
/-- a name alone that holds one's own list hands it over -/
def evRet (e : E) (env : Env) : R (Val × Bool) := match e with
  | .nm i => match env[i]? with
    | some (some p) => .ok p
    | _ => .bad
  | e => evE cl e (frzE env e)
mutual
noncomputable def evS : S → Env → O
  | .set i e, env => rO (frzE env e) (evE cl e (frzE env e)) fun p => .nx (put (frzE env e) i p.1 p.2)
  | .par i j a b, env => rO (frzAll env (kept a ++ kept b)) (evEs cl [a, b] (frzAll env (kept a ++ kept b))) fun vs => match vs with
    | [x, y] => if i = j then .bad else .nx (put (put (frzAll env (kept a ++ kept b)) i x false) j y false)
    | _ => .bad
  | .par3 i j k a b c, env => rO (frzAll env (kept a ++ kept b ++ kept c)) (evEs cl [a, b, c] (frzAll env (kept a ++ kept b ++ kept c))) fun vs => match vs with
    | [x, y, z] => if i = j ∨ i = k ∨ j = k then .bad else .nx (put (put (put (frzAll env (kept a ++ kept b ++ kept c)) i x false) j y false) k z false)
    | _ => .bad
  | .unp is e, env => rO (frzE env e) (evE cl e (frzE env e)) fun p => match bindT (.tup is) (frzE env e) p.1 with
    | .ok env' => .nx env'
    | _ => .bad
  | .six i k e, env => rO (frzE env e) (evE cl e (frzE env e)) fun p => rO (frzE env e) (ownL (frzE env e) i) fun xs => rO (frzE env e) ((opd (frzE env e) k (evE cl k (frzE env e))).bind toI) fun k => rO (frzE env e) (ixPut xs k p.1) fun ys => .nx (put (frzE env e) i (.lst ys) true)
  | .app i e, env => rO (frzE env e) (ownL (frzE env e) i) fun xs => rO (frzE env e) (evE cl e (frzE env e)) fun p => if lenOk (xs.length + 1) then .nx (put (frzE env e) i (.lst (xs ++ [p.1])) true) else .bad
  | .pop i, env => rO env (ownL env i) fun xs => if xs.isEmpty then .bad else .nx (put env i (.lst xs.dropLast) true)
  | .popu is i, env => rO env (ownL env i) fun xs => match xs.getLast? with
    | some v => if i ∈ is then .bad else match bindT (.tup is) (put env i (.lst xs.dropLast) true) v with
      | .ok env' => .nx env'
      | _ => .bad
    | none => .bad
  | .rev i, env => rO env (ownL env i) fun xs => .nx (put env i (.lst xs.reverse) true)
  | .ret e, env => rO env (evRet cl e env) fun p => .ret p.1 p.2
  | .retn, _ => .ret .non false
  | .ifs c a b, env => rO (frzE env c) (evT cl c (frzE env c)) fun k => if k then evSs a (frzE env c) else evSs b (frzE env c)
  | .whl c b, env => whl (fun env' => evT cl c env') (fun env' => evSs b env') (frzE env c)
  | .for tg it b, env => if borI it then .bad else rO (frzI env it) (evIt cl it (frzI env it)) fun xs => forL tg (fun env' => evSs b env') xs (frzI env it)
  | .exp e, env => rO (frzE env e) (evE cl e (frzE env e)) fun _ => .nx (frzE env e)
  | .rse c, env => .exc c env
  | .trya b c n h, env => match evSs b env with
    | .exc x env' => if excSub x c then (match evSs h (put env' n (.exc x) false) with
      | .nx env2 => .nx (env2.set n none)
      | .ret v fr => .ret v fr
      | _ => .bad) else .exc x env'
    | o => o
  | .pass, env => .nx env
noncomputable def evSs : List S → Env → O
  | [], env => .nx env
  | s :: ss, env => match evS s env with
    | .nx env' => evSs ss env'
    | o => o
end
end

/-! ### defs -/
structure FD where
  np : Nat
  nl : Nat
  body : List S
  deriving Repr
def startE (nl : Nat) (vs : List Val) : Env := vs.map (fun v => some (v, false)) ++ List.replicate (nl - vs.length) none
def fin : O → R (Val × Bool)
  | .nx _ => .ok (.non, false)
  | .ret v fr => .ok (v, fr)
  | .exc c _ => .exc c
  | _ => .bad
noncomputable def callF (FT : Nat → Option FD) : Nat → Nat → List Val → R (Val × Bool)
  | 0, _, _ => .bad
  | n + 1, f, vs => match FT f with
    | some d => if vs.length = d.np then fin (evSs (callF FT n) d.body (startE d.nl vs)) else .bad
    | none => .bad
/-- no comprehension -/
def noComp : Expr → Bool
  | .ListComp _ _ _ _ => false
  | .SetComp _ _ _ _ => false
  | .DictComp _ _ _ _ _ => false
  | _ => true
end G

set_option linter.all false
set_option maxHeartbeats 1000000
/-! G2: values and slots as they stand in the heap. -/
namespace G
open PySem PySem.Spec PyProof.Rows L2

/-- a caught error of the class cls -/
def ExT (cls : Value) (a : Addr) : HO := .ext fun h => ∃ (oe : Obj) (vs : Array Value), h.get? a = some oe ∧ Zc cls none oe ∧ oe.data = .fields vs
/-- a list that is never written: known, or of the module -/
def SqK (K : PySem.W.Frag) (H : Hp) (a : Addr) (xs : List V) : Prop :=
  (∃ o, H a = some (.frz o (.lst xs))) ∨
    ∃ (o : Obj) (its : Array Value) (n : Nat), K.lookup a = some o ∧ o.cls = .type "list" ∧ o.dict = none ∧ o.data = .seq its n ∧ its.size ≤ sizeLine ∧ Vals xs its.toList
theorem SqK.l {K : PySem.W.Frag} {H : Hp} {a : Addr} {xs : List V} (h : SqK K H a xs) : SqL K H a xs := h.imp (fun q => .inr q) id

mutual
inductive RV (K : PySem.W.Frag) (CA : Nat → Option Addr) (H : Hp) (P : Addr → Prop) : Val → V → Prop
  | non : RV K CA H P .non .non
  | bl (b : Bool) : RV K CA H P (.bl b) (.bl b)
  | int (i : Int) : RV K CA H P (.int i) (.int i)
  | str (s : Str) : RV K CA H P (.str s) (.str s)
  | tup {a : Addr} {xs : List V} {vs : List Val} : SqT K H a xs → RVs K CA H P vs xs → RV K CA H P (.tup vs) (.ref a)
  | lst {a : Addr} {xs : List V} {vs : List Val} : P a → H a = some (.lst xs) → RVs K CA H P vs xs → RV K CA H P (.lst vs) (.ref a)
  | scr {a : Addr} {ns : List Int} : SqK K H a (ns.map .int) → RV K CA H P (.scr ns) (.ref a)
  | exc {a C : Addr} {c : Nat} : CA c = some C → H a = some (ExT (.ref C) a) → RV K CA H P (.exc c) (.ref a)
inductive RVs (K : PySem.W.Frag) (CA : Nat → Option Addr) (H : Hp) (P : Addr → Prop) : List Val → List V → Prop
  | nil : RVs K CA H P [] []
  | cons {v : Val} {x : V} {vs : List Val} {xs : List V} : RV K CA H P v x → RVs K CA H P vs xs → RVs K CA H P (v :: vs) (x :: xs)
end

/-- a def's entry: the heap, what is frozen then -/
structure Bs where
  h : Hp
  p : Addr → Prop
section
variable {K : PySem.W.Frag} {CA : Nat → Option Addr} {H H' H2 : Hp} {H0 : Bs} {P P' P2 : Addr → Prop}

/-- what is frozen, and all that is no list, stays -/
def Pers (P : Addr → Prop) (H H' : Hp) : Prop := ∀ a o, H a = some o → (P a ∨ ∀ xs, o ≠ .lst xs) → H' a = some o
theorem Pers.refl : Pers P H H := fun _ _ h _ => h
theorem Pers.of_same (h : Same H H') : Pers P H H' := fun a o e _ => h a o e
theorem Pers.trans (h : Pers P H H') (h' : Pers P' H' H2) (hp : ∀ a, P a → P' a) : Pers P H H2 := fun a o e q => h' a o (h a o e q) (q.imp (hp a) id)
theorem Pers.sqT (h : Pers P H H') {a : Addr} {xs : List V} (s : SqT K H a xs) : SqT K H' a xs := by
  rcases s with (s | ⟨o, s⟩) | s
  · exact .inl (.inl (h a _ s (.inr fun _ z => by cases z)))
  · exact .inl (.inr ⟨o, h a _ s (.inr fun _ z => by cases z)⟩)
  · exact .inr s
theorem Pers.sqK (h : Pers P H H') {a : Addr} {xs : List V} (s : SqK K H a xs) : SqK K H' a xs := by
  rcases s with ⟨o, s⟩ | s
  · exact .inl ⟨o, h a _ s (.inr fun _ z => by cases z)⟩
  · exact .inr s
mutual
theorem RV.pers (h : Pers P H H') (hp : ∀ a, P a → P' a) : ∀ (v : Val) {x : V}, RV K CA H P v x → RV K CA H' P' v x
  | .non, _, r => by cases r; exact .non
  | .bl b, _, r => by cases r; exact .bl b
  | .int i, _, r => by cases r; exact .int i
  | .str s, _, r => by cases r; exact .str s
  | .tup vs, _, r => by
    cases r with
    | tup s t => exact .tup (h.sqT s) (RVs.pers h hp vs t)
  | .lst vs, _, r => by
    cases r with
    | lst p s t => exact .lst (hp _ p) (h _ _ s (.inl p)) (RVs.pers h hp vs t)
  | .scr ns, _, r => by
    cases r with
    | scr s => exact .scr (h.sqK s)
  | .exc c, _, r => by
    cases r with
    | exc c s => exact .exc c (h _ _ s (.inr fun _ z => by unfold ExT at z; cases z))
theorem RVs.pers (h : Pers P H H') (hp : ∀ a, P a → P' a) : ∀ (vs : List Val) {xs : List V}, RVs K CA H P vs xs → RVs K CA H' P' vs xs
  | [], _, r => by cases r; exact .nil
  | v :: vs, _, r => by
    cases r with
    | cons r t => exact .cons (RV.pers h hp v r) (RVs.pers h hp vs t)
end
theorem RV.mono {v : Val} {x : V} (r : RV K CA H P v x) (h : Same H H') (hp : ∀ a, P a → P' a) : RV K CA H' P' v x := RV.pers (.of_same h) hp v r
theorem RVs.mono {vs : List Val} {xs : List V} (r : RVs K CA H P vs xs) (h : Same H H') (hp : ∀ a, P a → P' a) : RVs K CA H' P' vs xs := RVs.pers (.of_same h) hp vs r
theorem RVs.length : ∀ {vs : List Val} {xs : List V}, RVs K CA H P vs xs → vs.length = xs.length
  | _, _, .nil => rfl
  | _, _, .cons _ t => congrArg (· + 1) t.length
theorem RVs.get : ∀ {vs : List Val} {xs : List V} {i : Nat} {v : Val}, RVs K CA H P vs xs → vs[i]? = some v → ∃ x, xs[i]? = some x ∧ RV K CA H P v x
  | _, _, _, _, .nil, e => by simp at e
  | _, _, 0, _, .cons r _, e => by simp at e; subst e; exact ⟨_, rfl, r⟩
  | _, _, i + 1, v, .cons r t, e => by
    obtain ⟨x, h1, h2⟩ := RVs.get (i := i) (v := v) t (by simpa using e)
    exact ⟨x, by simpa using h1, h2⟩
theorem RVs.get' : ∀ {vs : List Val} {xs : List V} {i : Nat} {x : V}, RVs K CA H P vs xs → xs[i]? = some x → ∃ v, vs[i]? = some v ∧ RV K CA H P v x
  | _, _, _, _, .nil, e => by simp at e
  | _, _, 0, _, .cons r _, e => by simp at e; subst e; exact ⟨_, rfl, r⟩
  | _, _, i + 1, v, .cons r t, e => by
    obtain ⟨x, h1, h2⟩ := RVs.get' (i := i) (x := v) t (by simpa using e)
    exact ⟨x, by simpa using h1, h2⟩
theorem RVs.append : ∀ {vs ws : List Val} {xs ys : List V}, RVs K CA H P vs xs → RVs K CA H P ws ys → RVs K CA H P (vs ++ ws) (xs ++ ys)
  | _, _, _, _, .nil, s => s
  | _, _, _, _, .cons r t, s => .cons r (RVs.append t s)
theorem RVs.set {v : Val} {x : V} (r : RV K CA H P v x) : ∀ {vs : List Val} {xs : List V} (i : Nat), RVs K CA H P vs xs → RVs K CA H P (vs.set i v) (xs.set i x)
  | _, _, _, .nil => .nil
  | _, _, 0, .cons _ t => .cons r t
  | _, _, i + 1, .cons q t => .cons q (RVs.set r i t)
theorem RVs.take : ∀ {vs : List Val} {xs : List V} (n : Nat), RVs K CA H P vs xs → RVs K CA H P (vs.take n) (xs.take n)
  | _, _, 0, _ => .nil
  | _, _, _ + 1, .nil => .nil
  | _, _, n + 1, .cons r t => .cons r (RVs.take n t)
theorem RVs.drop : ∀ {vs : List Val} {xs : List V} (n : Nat), RVs K CA H P vs xs → RVs K CA H P (vs.drop n) (xs.drop n)
  | _, _, 0, r => r
  | _, _, _ + 1, .nil => .nil
  | _, _, n + 1, .cons _ t => RVs.drop n t
theorem RVs.dropLast {vs : List Val} {xs : List V} (h : RVs K CA H P vs xs) : RVs K CA H P vs.dropLast xs.dropLast := by
  rw [List.dropLast_eq_take, List.dropLast_eq_take, h.length]
  exact h.take _
theorem RVs.reverse : ∀ {vs : List Val} {xs : List V}, RVs K CA H P vs xs → RVs K CA H P vs.reverse xs.reverse
  | _, _, .nil => .nil
  | _, _, .cons r t => by
    rw [List.reverse_cons, List.reverse_cons]
    exact RVs.append (RVs.reverse t) (.cons r .nil)
theorem RVs.rep {vs : List Val} {xs : List V} (h : RVs K CA H P vs xs) : ∀ k : Nat, RVs K CA H P (List.replicate k vs).flatten (List.replicate k xs).flatten
  | 0 => .nil
  | k + 1 => by
    rw [List.replicate_succ, List.replicate_succ, List.flatten_cons, List.flatten_cons]
    exact RVs.append h (RVs.rep h k)
theorem RVs.cut {vs : List Val} {xs : List V} (h : RVs K CA H P vs xs) (lo hi : Option Int) : RVs K CA H P (cut vs lo hi) (cutV xs lo hi) := by
  unfold G.cut cutV
  rw [h.length]
  exact (h.drop _).take _
mutual
/-- what holds no list leans on no frozen list -/
theorem RV.noL : ∀ (v : Val) {x : V}, G.noL v = true → RV K CA H P v x → RV K CA H P' v x
  | .non, _, _, r => by cases r; exact .non
  | .bl b, _, _, r => by cases r; exact .bl b
  | .int i, _, _, r => by cases r; exact .int i
  | .str s, _, _, r => by cases r; exact .str s
  | .tup vs, _, n, r => by
    cases r with
    | tup s t => exact .tup s (RVs.noL vs n t)
  | .lst vs, _, n, r => by cases n
  | .scr vs, _, n, r => by
    cases r with
    | scr s => exact .scr s
  | .exc c, _, _, r => by
    cases r with
    | exc c s => exact .exc c s
theorem RVs.noL : ∀ (vs : List Val) {xs : List V}, G.noLs vs = true → RVs K CA H P vs xs → RVs K CA H P' vs xs
  | [], _, _, r => by cases r; exact .nil
  | v :: vs, _, n, r => by
    cases r with
    | cons r t =>
      have n' : (G.noL v && G.noLs vs) = true := n
      rw [Bool.and_eq_true] at n'
      exact .cons (RV.noL v n'.1 r) (RVs.noL vs n'.2 t)
end
mutual
theorem RV.dp : ∀ (v : Val) {x : V}, G.isD v = true → RV K CA H P v x → Dp K H x (dat v)
  | .non, _, _, r => by cases r; exact .non
  | .bl b, _, _, r => by cases r; exact .bl b
  | .int i, _, _, r => by cases r; exact .int i
  | .str s, _, _, r => by cases r; exact .str s
  | .tup vs, _, n, r => by
    cases r with
    | tup s t => exact .tup s (RVs.dp vs n t)
  | .lst vs, _, n, r => by
    cases r with
    | lst p s t => exact .lst (SqL.of s) (RVs.dp vs n t)
  | .scr vs, _, n, r => by cases n
  | .exc c, _, n, r => by cases n
theorem RVs.dp : ∀ (vs : List Val) {xs : List V}, G.isDs vs = true → RVs K CA H P vs xs → DpAll K H xs (dats vs)
  | [], _, _, r => by cases r; exact .nil
  | v :: vs, _, n, r => by
    cases r with
    | cons r t =>
      have n' : (G.isD v && G.isDs vs) = true := n
      rw [Bool.and_eq_true] at n'
      exact .cons (RV.dp v n'.1 r) (RVs.dp vs n'.2 t)
end

/-- more is frozen, all of it new -/
def Grow (P : Addr → Prop) (H : Hp) (P' : Addr → Prop) : Prop := (∀ a, P a → P' a) ∧ ∀ a, P' a → P a ∨ H a = none
theorem Grow.refl : Grow P H P := ⟨fun _ h => h, fun _ h => .inl h⟩
theorem Grow.trans (h : Grow P H P') (s : Same H H') (h' : Grow P' H' P2) : Grow P H P2 :=
  ⟨fun a q => h'.1 a (h.1 a q), fun a q => (h'.2 a q).elim (h.2 a) fun z => .inr (s.free z)⟩
theorem Grow.add (h : Grow P H P') {a : Addr} (n : H a = none) : Grow P H (fun b => P' b ∨ b = a) :=
  ⟨fun b q => .inl (h.1 b q), fun b q => q.elim (h.2 b) fun e => .inr (by rw [e]; exact n)⟩

/-- all that is frozen is a list -/
def Trk (P : Addr → Prop) (H : Hp) : Prop := ∀ a, P a → ∃ xs, H a = some (.lst xs)
/-- an expression's step: all stays, more is frozen -/
structure Step (P : Addr → Prop) (H : Hp) (P' : Addr → Prop) (H' : Hp) : Prop where
  s : Same H H'
  g : Grow P H P'
  t : Trk P' H'
theorem Step.refl (t : Trk P H) : Step P H P H := ⟨Same.refl _, .refl, t⟩
theorem Step.trans (a : Step P H P' H') (b : Step P' H' P2 H2) : Step P H P2 H2 := ⟨a.s.trans b.s, a.g.trans a.s b.g, b.t⟩
theorem Step.add (a : Step P H P' H') {p : Addr} {xs : List V} (n : H p = none) (e : H' p = some (.lst xs)) : Step P H (fun b => P' b ∨ b = p) H' :=
  ⟨a.s, a.g.add n, fun b q => q.elim (a.t b) fun z => by rw [z]; exact ⟨xs, e⟩⟩
/-- the slots -/
structure ER (K : PySem.W.Frag) (CA : Nat → Option Addr) (H0 : Bs) (H : Hp) (P : Addr → Prop) (env : Env) (σ : L2.St) : Prop where
  ext : Same H0.h H
  gr : Grow H0.p H0.h P
  trk : Trk P H
  len : env.length = σ.length
  shr : ∀ (i : Nat) v, env[i]? = some (some (v, false)) → ∃ x, σ[i]? = some (some x) ∧ RV K CA H P v x
  own : ∀ (i : Nat) v, env[i]? = some (some (v, true)) → ∃ a xs vs, v = .lst vs ∧ σ[i]? = some (some (.ref a)) ∧ H a = some (.lst xs) ∧ ¬ P a ∧ H0.h a = none ∧ RVs K CA H P vs xs
  dis : ∀ (i j : Nat) v w a, env[i]? = some (some (v, true)) → env[j]? = some (some (w, true)) → σ[i]? = some (some (.ref a)) → σ[j]? = some (some (.ref a)) → i = j
/-- the slot i holds a list of one's own, at a -/
def OwnAt (env : Env) (σ : L2.St) (i : Nat) (a : Addr) : Prop := (∃ v, env[i]? = some (some (v, true))) ∧ σ[i]? = some (some (.ref a))
/-- what an operand may be beside the frozen -/
def LA (env : Env) (σ : L2.St) (e : E) (a : Addr) : Prop := ∃ i, e = .bor i ∧ OwnAt env σ i a
theorem LA.no {env : Env} {σ : L2.St} {e : E} {a : Addr} (h : ∀ i, e ≠ .bor i) : ¬ LA env σ e a := fun ⟨i, q, _⟩ => h i q
section
variable {env : Env} {σ : L2.St}
theorem ER.grow (r : ER K CA H0 H P env σ) (st : Step P H P' H') : ER K CA H0 H' P' env σ where
  ext := r.ext.trans st.s
  gr := r.gr.trans r.ext st.g
  trk := st.t
  len := r.len
  shr := fun i v e => by
    obtain ⟨x, h1, h2⟩ := r.shr i v e
    exact ⟨x, h1, h2.mono st.s st.g.1⟩
  own := fun i v e => by
    obtain ⟨a, xs, vs, h1, h2, h3, h4, h5, h6⟩ := r.own i v e
    refine ⟨a, xs, vs, h1, h2, st.s _ _ h3, fun q => ?_, h5, h6.mono st.s st.g.1⟩
    rcases st.g.2 a q with q | q
    · exact h4 q
    · rw [h3] at q; cases q
  dis := r.dis
theorem OwnAt.at (r : ER K CA H0 H P env σ) {i : Nat} {a : Addr} (h : OwnAt env σ i a) : ∃ xs vs, env[i]? = some (some (.lst vs, true)) ∧ σ[i]? = some (some (.ref a)) ∧ H a = some (.lst xs) ∧ ¬ P a ∧ H0.h a = none ∧ RVs K CA H P vs xs := by
  obtain ⟨⟨v, h1⟩, h2⟩ := h
  obtain ⟨b, xs, vs, e1, e2, e3, e4, e5, e6⟩ := r.own i v h1
  rw [h2] at e2
  cases e2
  subst e1
  exact ⟨xs, vs, h1, h2, e3, e4, e5, e6⟩
/-- a result: a new list that nobody else knows, or a value through what is frozen -/
def RF (K : PySem.W.Frag) (CA : Nat → Option Addr) (H H' : Hp) (P' : Addr → Prop) (p : Val × Bool) (x : V) : Prop :=
  (p.2 = false ∧ RV K CA H' P' p.1 x) ∨ (p.2 = true ∧ ∃ a xs vs, p.1 = .lst vs ∧ x = .ref a ∧ H a = none ∧ H' a = some (.lst xs) ∧ ¬ P' a ∧ RVs K CA H' P' vs xs)
theorem RF.rv {p : Val × Bool} {x : V} (h : RF K CA H H' P' p x) (g : Step P H P' H') : ∃ P2, Step P H P2 H' ∧ (∀ a, P' a → P2 a) ∧ RV K CA H' P2 p.1 x := by
  rcases h with ⟨_, h⟩ | ⟨_, a, xs, vs, h1, h2, h3, h4, h5, h6⟩
  · exact ⟨P', g, fun _ q => q, h⟩
  · refine ⟨fun b => P' b ∨ b = a, g.add h3 h4, fun _ q => .inl q, ?_⟩
    rw [h1, h2]
    exact .lst (.inr rfl) h4 (h6.mono (Same.refl _) fun _ q => .inl q)
theorem RF.back {p : Val × Bool} {x : V} (h : RF K CA H' H2 P' p x) (s : Same H H') : RF K CA H H2 P' p x := by
  rcases h with h | ⟨h0, a, xs, vs, h1, h2, h3, h4, h5, h6⟩
  · exact .inl h
  · exact .inr ⟨h0, a, xs, vs, h1, h2, s.free h3, h4, h5, h6⟩
end
end
end G

set_option linter.all false
set_option maxHeartbeats 2000000
set_option maxRecDepth 100000
/-! G3: the operations, by values. -/
namespace G
open PySem PySem.Spec PyProof.Rows L2
theorem _root_.L2.PE.imp {X : Cx} {e : Expr} {t t' : TE} (h : PE X e t) (i : ∀ σ H Q, t' σ H Q → t σ H Q) : PE X e t' := ⟨fun pins s σ H Q I q => h.run pins s σ H Q I (i σ H Q q)⟩
theorem _root_.L2.PT.imp {X : Cx} {e : Expr} {t t' : TT} (h : PT X e t) (i : ∀ σ H Q, t' σ H Q → t σ H Q) : PT X e t' := ⟨fun pins s σ H Q I q => h.run pins s σ H Q I (i σ H Q q)⟩
theorem _root_.L2.PW.imp {X : Cx} {e : Expr} {t t' : TT} (h : PW X e t) (i : ∀ σ H Q, t' σ H Q → t σ H Q) : PW X e t' := ⟨fun w pins s σ H Q I q => h.run w pins s σ H Q I (i σ H Q q)⟩
theorem _root_.L2.PA.imp {X : Cx} {es : List Expr} {t t' : TA} (h : PA X es t) (i : ∀ σ H Q, t' σ H Q → t σ H Q) : PA X es t' := ⟨fun pos pins s σ H Q I q => h.run pos pins s σ H Q I (i σ H Q q)⟩
theorem _root_.L2.PS.imp {X : Cx} {st : Stmt} {t t' : TS} (h : PS X st t) (i : ∀ D σ H, t' D σ H → t D σ H) : PS X st t' := ⟨fun pins s σ H D I q => h.run pins s σ H D I (i D σ H q)⟩
theorem _root_.L2.PSs.imp {X : Cx} {st : List Stmt} {t t' : TS} (h : PSs X st t) (i : ∀ D σ H, t' D σ H → t D σ H) : PSs X st t' := ⟨fun pins s σ H D I q => h.run pins s σ H D I (i D σ H q)⟩
theorem LIM_le {n : Nat} (h : lenOk n = true) : n ≤ sizeLine := Nat.le_trans (of_decide_eq_true h) (by decide)
theorem LIM_lt {n : Nat} (h : lenOk (n + 1) = true) : n < sizeLine := Nat.lt_of_lt_of_le (Nat.lt_succ_self n) (LIM_le h)

section
variable {K : PySem.W.Frag} {CA : Nat → Option Addr} {H H' H2 : Hp} {H0 : Bs} {P P' P2 L M : Addr → Prop} {v : Val} {x : V}
/-- an operand: through what is frozen, or one's own list at L, its items through what is frozen -/
def RVo (K : PySem.W.Frag) (CA : Nat → Option Addr) (H : Hp) (P L : Addr → Prop) (v : Val) (x : V) : Prop :=
  RV K CA H P v x ∨ ∃ a xs vs, L a ∧ v = .lst vs ∧ x = .ref a ∧ H a = some (.lst xs) ∧ RVs K CA H P vs xs
theorem RVo.mono (h : RVo K CA H P L v x) (s : Same H H') (hp : ∀ a, P a → P' a) : RVo K CA H' P' L v x := by
  rcases h with h | ⟨a, xs, vs, h1, h2, h3, h4, h5⟩
  · exact .inl (h.mono s hp)
  · exact .inr ⟨a, xs, vs, h1, h2, h3, s _ _ h4, h5.mono s hp⟩
theorem RVo.rv (h : RVo K CA H P L v x) : RV K CA H (fun a => P a ∨ L a) v x := by
  rcases h with h | ⟨a, xs, vs, h1, h2, h3, h4, h5⟩
  · exact h.mono (Same.refl _) fun _ q => .inl q
  · rw [h2, h3]
    exact .lst (.inr h1) h4 (h5.mono (Same.refl _) fun _ q => .inl q)
theorem RVo.lst {vs : List Val} (h : RVo K CA H P L (.lst vs) x) : ∃ a xs, x = .ref a ∧ H a = some (.lst xs) ∧ RVs K CA H P vs xs := by
  rcases h with h | ⟨a, xs, vs', h1, h2, h3, h4, h5⟩
  · cases h with
    | lst p s t => exact ⟨_, _, rfl, s, t⟩
  · cases h2
    exact ⟨a, xs, h3, h4, h5⟩
theorem RVo.of (h : RVo K CA H P L v x) (n : isLst v = false) : RV K CA H P v x := by
  rcases h with h | ⟨a, xs, vs, h1, h2, h3, h4, h5⟩
  · exact h
  · rw [h2] at n; cases n
theorem RVo.int {i : Int} (h : RVo K CA H P L (.int i) x) : x = .int i := by
  cases h.of rfl; rfl
theorem RVo.bl {b : Bool} (h : RVo K CA H P L (.bl b) x) : x = .bl b := by
  cases h.of rfl; rfl
theorem RVo.str {s : Str} (h : RVo K CA H P L (.str s) x) : x = .str s := by
  cases h.of rfl; rfl
theorem RVo.non (h : RVo K CA H P L .non x) : x = .non := by
  cases h.of rfl; rfl
theorem RVo.tup {vs : List Val} (h : RVo K CA H P L (.tup vs) x) : ∃ a xs, x = .ref a ∧ SqT K H a xs ∧ RVs K CA H P vs xs := by
  cases h.of rfl with
  | tup s t => exact ⟨_, _, rfl, s, t⟩
theorem RVo.scr {ns : List Int} (h : RVo K CA H P L (.scr ns) x) : ∃ a, x = .ref a ∧ SqK K H a (ns.map .int) := by
  cases h.of rfl with
  | scr s => exact ⟨_, rfl, s⟩
/-- what follows from an operation's value -/
def Out (K : PySem.W.Frag) (CA : Nat → Option Addr) (H : Hp) (P : Addr → Prop) (p : Val × Bool) (Q : VK) : Prop :=
  ∀ H' P' x, Step P H P' H' → RF K CA H H' P' p x → Q x H'
theorem Out.here {Q : VK} (o : Out K CA H P (v, false) Q) (t : Trk P H) (r : RV K CA H P v x) : Q x H := o H P x (.refl t) (.inl ⟨rfl, r⟩)
theorem Out.int {Q : VK} {i : Int} (o : Out K CA H P (.int i, false) Q) (t : Trk P H) : Q (.int i) H := o.here t (.int i)
theorem Out.bl {Q : VK} {b : Bool} (o : Out K CA H P (.bl b, false) Q) (t : Trk P H) : Q (.bl b) H := o.here t (.bl b)
theorem same_new {p : Addr} {o : HO} (h : H p = none) : Same H (upd H p o) := fun b u e => by
  rw [upd_ne (ne_of_none e h)]
  exact e
theorem step_new {p : Addr} {o : HO} (h : H p = none) (t : Trk P H) : Step P H P (upd H p o) := ⟨same_new h, .refl, fun a q => by
  obtain ⟨xs, e⟩ := t a q
  exact ⟨xs, same_new h _ _ e⟩⟩
theorem Trk.no {p : Addr} (t : Trk P H) (h : H p = none) : ¬ P p := fun q => by
  obtain ⟨xs, e⟩ := t p q
  rw [h] at e; cases e
theorem Out.newL {Q : VK} {vs : List Val} {xs : List V} (o : Out K CA H P (.lst vs, true) Q) (t : Trk P H) (r : RVs K CA H P vs xs) : ∀ p, H p = none → Q (.ref p) (upd H p (.lst xs)) := fun p hp =>
  o _ P _ (step_new hp t) (.inr ⟨rfl, p, xs, vs, rfl, rfl, hp, upd_same, t.no hp, r.mono (same_new hp) fun _ q => q⟩)
theorem Out.newT {Q : VK} {vs : List Val} {xs : List V} (o : Out K CA H P (.tup vs, false) Q) (t : Trk P H) (r : RVs K CA H P vs xs) : ∀ p, H p = none → Q (.ref p) (upd H p (.tup xs)) := fun p hp =>
  o _ P _ (step_new hp t) (.inl ⟨rfl, .tup (SqT.of upd_same) (r.mono (same_new hp) fun _ q => q)⟩)
end
/-! ### two-place operations -/
section
variable {X : Cx}
/-- division of any size goes -/
def PyR (X : Cx) : Prop := ∀ pins σ H s, Inv X pins σ H s → PylongRoom (model X.prog X.w) X.A s
/-- an operation on operands -/
def rOp (K : PySem.W.Frag) (CA : Nat → Option Addr) (fl : Val → Bool) (f : Val → Val → R Val) : R2 := fun x y H Q => ∃ (va vb : Val) (P L M : Addr → Prop), Trk P H ∧ RVo K CA H P L va x ∧ RVo K CA H P M vb y ∧
  match f va vb with
  | .ok v => Out K CA H P (v, fl v) Q
  | _ => False
theorem rOp_ok {K : PySem.W.Frag} {CA : Nat → Option Addr} {fl : Val → Bool} {f : Val → Val → R Val} {va vb v : Val} {H : Hp} {P : Addr → Prop} {Q : VK}
    (h : match f va vb with | .ok v => Out K CA H P (v, fl v) Q | _ => False) (e : f va vb = .ok v) : Out K CA H P (v, fl v) Q := by
  rw [e] at h; exact h
theorem mulOk_ok {i j : Int} (h : mulOk i j = true) : IntMulOk i j := by
  have h3 : i.natAbs.log2 + j.natAbs.log2 < 134000000 := of_decide_eq_true h
  have b : ∀ x : Int, Builtin.Int.intBits x ≤ x.natAbs.log2 + 1 := fun x => by
    unfold Builtin.Int.intBits
    split <;> omega
  have h1 := b i
  have h2 := b j
  have e : bitsLine = 134217728 := by decide
  unfold IntMulOk
  intro z
  rw [Bool.and_eq_true] at z
  have z2 := z.2
  unfold Builtin.Int.intTooBig at z2
  have z3 := of_decide_eq_true z2
  rw [e] at z3
  omega
def opOf : BOp → Operator
  | .add => .Add
  | .sub => .Sub
  | .mul => .Mult
  | .fdiv => .FloorDiv
  | .mod => .Mod
  | .pow => .Pow
  | .band => .BitAnd
  | .shr => .RShift
variable {CA : Nat → Option Addr}
theorem op_bin (hp : PyR X) (o : BOp) : OpR X (binaryOp (opOf o)) (rOp X.K CA isLst (evBin o)) := by
  intro pins s σ H x y v u Q I rx ry h
  obtain ⟨va, vb, P, L, M, t, ra, rb, h⟩ := h
  cases o <;> cases va <;> cases vb <;> first | exact h.elim | skip
  all_goals first | (cases ra.int; cases rb.int) | skip
  case add.int.int i j => exact op_add pins s σ H _ _ v u Q I rx ry ⟨i, j, rfl, rfl, h.int t⟩
  case add.tup.tup vs ws =>
    obtain ⟨a, xs, rfl, sa, qa⟩ := ra.tup
    obtain ⟨b, ys, rfl, sb, qb⟩ := rb.tup
    cases hl : lenOk (vs.length + ws.length) with
    | false => simp only [evBin, hl] at h; exact h.elim
    | true =>
      have h := rOp_ok h (v := .tup (vs ++ ws)) (by simp only [evBin, hl]; rfl)
      refine op_catA pins s σ H _ _ v u Q I rx ry ⟨a, b, xs, ys, rfl, rfl, sa, sb, ?_, fun e => ?_, fun e1 e2 => ?_, fun e1 e2 => h.newT t (qa.append qb)⟩
      · rw [← qa.length, ← qb.length]; exact LIM_le hl
      · subst e
        cases qa
        exact h.here t (.tup sb qb)
      · subst e2
        cases qb
        rw [List.append_nil] at h
        exact h.here t (.tup sa qa)
  case add.lst.lst vs ws =>
    obtain ⟨a, xs, rfl, sa, qa⟩ := ra.lst
    obtain ⟨b, ys, rfl, sb, qb⟩ := rb.lst
    cases hl : lenOk (vs.length + ws.length) with
    | false => simp only [evBin, hl] at h; exact h.elim
    | true =>
      have h := rOp_ok h (v := .lst (vs ++ ws)) (by simp only [evBin, hl]; rfl)
      refine op_cat pins s σ H _ _ v u Q I rx ry ⟨a, b, xs, ys, rfl, rfl, sa, sb, ?_, h.newL t (qa.append qb)⟩
      rw [← qa.length, ← qb.length]; exact LIM_le hl
  case sub.int.int i j => exact op_sub pins s σ H _ _ v u Q I rx ry ⟨i, j, rfl, rfl, h.int t⟩
  case mul.int.int i j =>
    cases hl : mulOk i j with
    | false => simp only [evBin, hl] at h; exact h.elim
    | true =>
      have h := rOp_ok h (v := .int (i * j)) (by simp only [evBin, hl]; rfl)
      obtain ⟨ti, rfl⟩ := rx
      obtain ⟨tj, rfl⟩ := ry
      exact mul_int ⟨.int (i * j), H, I.tok _, ⟨_, rfl⟩, h.int t⟩ (mulOk_ok hl)
  case mul.lst.int vs k =>
    obtain ⟨a, xs, rfl, sa, qa⟩ := ra.lst
    cases rb.int
    cases hl : (lenOk (vs.length * k.toNat) && decide (-1000000 ≤ k ∧ k ≤ 1000000)) with
    | false => simp only [evBin, hl] at h; exact h.elim
    | true =>
      have h := rOp_ok h (v := .lst (List.replicate k.toNat vs).flatten) (by simp only [evBin, hl]; rfl)
      rw [Bool.and_eq_true] at hl
      have hk := of_decide_eq_true hl.2
      refine op_rep pins s σ H _ _ v u Q I rx ry ⟨a, k, xs, rfl, rfl, sa, by omega, by omega, ?_, h.newL t (qa.rep _)⟩
      rw [← qa.length]; exact LIM_le hl.1
  case fdiv.int.int i j =>
    by_cases hj : j = 0
    · simp only [evBin, if_pos hj] at h
    · have h := rOp_ok h (v := .int (i.fdiv j)) (by simp only [evBin, if_neg hj])
      obtain ⟨ti, rfl⟩ := rx
      obtain ⟨tj, rfl⟩ := ry
      exact floordiv_int hj ⟨.int (i.fdiv j), H, I.tok _, ⟨_, rfl⟩, h.int t⟩ (.inr (hp pins σ H s I))
  case mod.int.int i j =>
    by_cases hj : j = 0
    · simp only [evBin, if_pos hj] at h
    · have h := rOp_ok h (v := .int (i.fmod j)) (by simp only [evBin, if_neg hj])
      exact op_modN pins s σ H _ _ v u Q I rx ry ⟨i, j, rfl, rfl, hj, h.int t⟩
  case pow.int.int i j =>
    cases hl : powOk i j with
    | false => simp only [evBin, hl] at h; exact h.elim
    | true =>
      have h := rOp_ok h (v := .int (i ^ j.toNat)) (by simp only [evBin, hl]; rfl)
      exact op_pow pins s σ H _ _ v u Q I rx ry ⟨i, j, rfl, rfl, (of_decide_eq_true hl : 0 ≤ j ∧ j ≤ 1000000 ∧ i.natAbs < 2 ^ 64), h.int t⟩
  case band.int.int i j => exact op_and pins s σ H _ _ v u Q I rx ry ⟨i, j, rfl, rfl, h.int t⟩
  case shr.int.int i j =>
    by_cases hj : 0 ≤ j
    · have h := rOp_ok h (v := .int (i / 2 ^ j.toNat)) (by simp only [evBin, if_pos hj])
      exact op_shr pins s σ H _ _ v u Q I rx ry ⟨i, j, rfl, rfl, hj, h.int t⟩
    · simp only [evBin, if_neg hj] at h
def cpOf : COp → CmpOp
  | .lt => .Lt
  | .le => .LtE
  | .gt => .Gt
  | .ge => .GtE
  | .eq => .Eq
  | .ne => .NotEq
theorem op_cmp (hu : X.A.units + 64 < cLine) (o : COp) : OpR X (compareOp (cpOf o)) (rOp X.K CA (fun _ => false) (evCmp o)) := by
  intro pins s σ H x y v u Q I rx ry h
  obtain ⟨va, vb, P, L, M, t, ra, rb, h⟩ := h
  have ed : ∀ {n : Bool} {w : Val}, (okD va && okD vb) = true → Dp X.K H x (dat va) ∧ Dp X.K H y (dat vb) ∧ SeqAt.shaped (dat va) = true ∧ SeqAt.shaped (dat vb) = true := fun {n w} e => by
    rw [Bool.and_eq_true] at e
    obtain ⟨e1, e2⟩ := e
    unfold okD at e1 e2
    rw [Bool.and_eq_true] at e1 e2
    exact ⟨RV.dp va e1.1 ra.rv, RV.dp vb e2.1 rb.rv, e1.2, e2.2⟩
  cases o
  case eq =>
    cases e : (okD va && okD vb) with
    | false => simp only [evCmp, e] at h; exact h.elim
    | true =>
      have h := rOp_ok h (v := .bl (PyData.eqv (dat va) (dat vb))) (by simp only [evCmp, e]; rfl)
      obtain ⟨d1, d2, d3, d4⟩ := ed (n := true) (w := va) e
      exact op_eqD hu pins s σ H _ _ v u Q I rx ry ⟨_, _, d1, d2, d3, d4, h.bl t⟩
  case ne =>
    cases e : (okD va && okD vb) with
    | false => simp only [evCmp, e] at h; exact h.elim
    | true =>
      have h := rOp_ok h (v := .bl (!PyData.eqv (dat va) (dat vb))) (by simp only [evCmp, e]; rfl)
      obtain ⟨d1, d2, d3, d4⟩ := ed (n := true) (w := va) e
      exact op_neD hu pins s σ H _ _ v u Q I rx ry ⟨_, _, d1, d2, d3, d4, h.bl t⟩
  all_goals
    cases va <;> cases vb <;> first | exact h.elim | skip
    cases ra.int
    cases rb.int
  · exact op_lt pins s σ H _ _ v u Q I rx ry ⟨_, _, rfl, rfl, h.bl t⟩
  · exact op_le pins s σ H _ _ v u Q I rx ry ⟨_, _, rfl, rfl, h.bl t⟩
  · exact op_gt pins s σ H _ _ v u Q I rx ry ⟨_, _, rfl, rfl, h.bl t⟩
  · exact op_ge pins s σ H _ _ v u Q I rx ry ⟨_, _, rfl, rfl, h.bl t⟩
end
end G

set_option linter.all false
set_option maxHeartbeats 2000000
set_option maxRecDepth 100000
/-! G3b: subscripts, slices, truth, built-in functions, isinstance, by values. -/
namespace G
open PySem PySem.Spec PyProof.Rows L2 HT
section
variable {X : Cx} {CA : Nat → Option Addr}
theorem atI_rv {K : PySem.W.Frag} {H : Hp} {P : Addr → Prop} {vs : List Val} {xs : List V} (r : RVs K CA H P vs xs) {i : Int} {v : Val} (h : atI vs i = some v) : ∃ x, atI xs i = some x ∧ RV K CA H P v x := by
  unfold atI at h ⊢
  rw [← r.length]
  cases e : ixN vs.length i with
  | none => rw [e] at h; cases h
  | some j =>
    rw [e] at h
    exact r.get h
theorem atI_map {α β : Type} (f : α → β) (xs : List α) (i : Int) {v : α} (h : atI xs i = some v) : atI (xs.map f) i = some (f v) := by
  unfold atI at h ⊢
  rw [List.length_map]
  cases e : ixN xs.length i with
  | none => rw [e] at h; cases h
  | some j =>
    rw [e] at h
    have h' : xs[j]? = some v := h
    show (xs.map f)[j]? = _
    rw [List.getElem?_map, h']; rfl
theorem ix_any : IxR X (rOp X.K CA (fun _ => false) evIx) := by
  intro value slice pins s σ H x y v u Q I rx ry h hs
  obtain ⟨va, vb, P, L, M, t, ra, rb, h⟩ := h
  cases va <;> cases vb <;> first | exact h.elim | skip
  all_goals cases rb.int
  case tup.int vs i =>
    obtain ⟨a, xs, rfl, sa, qa⟩ := ra.tup
    cases e : atI vs i with
    | none => simp only [evIx, e, ofO] at h
    | some w =>
      obtain ⟨z, hz, rz⟩ := atI_rv qa e
      simp only [evIx, e, ofO] at h
      exact ix_tup value slice pins s σ H _ _ v u Q I rx ry ⟨a, xs, i, z, rfl, rfl, sa, hz, h.here t rz⟩ hs
  case lst.int vs i =>
    obtain ⟨a, xs, rfl, sa, qa⟩ := ra.lst
    cases e : atI vs i with
    | none => simp only [evIx, e, ofO] at h
    | some w =>
      obtain ⟨z, hz, rz⟩ := atI_rv qa e
      simp only [evIx, e, ofO] at h
      exact ix_list value slice pins s σ H _ _ v u Q I rx ry ⟨a, xs, i, z, rfl, rfl, SqL.of sa, hz, h.here t rz⟩ hs
  case scr.int ns i =>
    obtain ⟨a, rfl, sa⟩ := ra.scr
    cases e : atI ns i with
    | none => simp only [evIx, e, ofO, Option.map_none] at h
    | some w =>
      simp only [evIx, e, ofO, Option.map_some] at h
      exact ix_list value slice pins s σ H _ _ v u Q I rx ry ⟨a, _, i, _, rfl, rfl, sa.l, atI_map _ _ _ e, h.int t⟩ hs

/-! ### in -/
theorem flat_rv {K : PySem.W.Frag} {H : Hp} {P : Addr → Prop} {v : Val} {x : V} (f : flat v = true) (r : RV K CA H P v x) : x = toV v ∧ flatV x = true := by
  cases v <;> first | (cases f; done) | (cases r; exact ⟨rfl, rfl⟩)
theorem flats_rv {K : PySem.W.Frag} {H : Hp} {P : Addr → Prop} : ∀ {vs : List Val} {xs : List V}, vs.all flat = true → RVs K CA H P vs xs → xs = vs.map toV ∧ xs.all flatV = true
  | _, _, _, .nil => ⟨rfl, rfl⟩
  | v :: vs, _, f, .cons r t => by
    rw [List.all_cons, Bool.and_eq_true] at f
    obtain ⟨e1, e2⟩ := flat_rv f.1 r
    obtain ⟨e3, e4⟩ := flats_rv f.2 t
    exact ⟨by rw [List.map_cons, ← e1, ← e3], by rw [List.all_cons, e2, e4]; rfl⟩
def inOf : Bool → CmpOp
  | false => .In
  | true => .NotIn
theorem op_inn (hu : X.A.units + 64 < cLine) (n : Bool) : OpR X (compareOp (inOf n)) (rOp X.K CA (fun _ => false) (evIn n)) := by
  intro pins s σ H x y v u Q I rx ry h
  obtain ⟨va, vb, P, L, M, t, ra, rb, h⟩ := h
  have fin : ∀ (p : Addr) (xs : List V) (vs : List Val), y = .ref p → (SqL X.K H p xs ∨ SqT X.K H p xs) → RVs X.K CA H P vs xs → (flat va && vs.all flat) = true →
      Out X.K CA H P (.bl (if n then !inV (toV va) (vs.map toV) else inV (toV va) (vs.map toV)), false) Q → wpAny (model X.prog X.w) X.A (compareOp (inOf n) v u) (EP X pins σ Q) X.xe s := by
    intro p xs vs ey hs r f o
    rw [Bool.and_eq_true] at f
    obtain ⟨e1, e2⟩ := flat_rv f.1 ra.rv
    obtain ⟨e3, e4⟩ := flats_rv f.2 r
    rw [← e1, ← e3] at o
    cases n
    · exact op_in_seq pins s σ H x y v u Q I rx ry ⟨p, xs, ey, hs, e2, e4, o.bl t⟩
    · exact op_notIn_seq pins s σ H x y v u Q I rx ry ⟨p, xs, ey, hs, e2, e4, o.bl t⟩
  cases vb <;> first | exact h.elim | skip
  case tup vs =>
    obtain ⟨b, xs, rfl, sb, qb⟩ := rb.tup
    cases e : (flat va && vs.all flat) with
    | false => simp only [evIn, e] at h; exact h.elim
    | true =>
      simp only [evIn, e, if_true] at h
      exact fin b xs vs rfl (.inr sb) qb e h
  case lst vs =>
    cases e : (flat va && vs.all flat) with
    | false =>
      cases e2 : (okD va && okD (.lst vs) && Nat.ble (dat va).depth 32) with
      | false => simp only [evIn, e, e2] at h; exact h.elim
      | true =>
        have h : Out X.K CA H P (.bl (if n then !((dats vs).any fun z => PyData.eqv z (dat va)) else (dats vs).any fun z => PyData.eqv z (dat va)), false) Q := by
          simp only [evIn, e, e2, if_true] at h; exact h
        have o := h.bl t
        rw [Bool.and_eq_true, Bool.and_eq_true] at e2
        obtain ⟨⟨k1, k2⟩, k3⟩ := e2
        unfold okD at k1 k2
        rw [Bool.and_eq_true] at k1 k2
        have d1 := RV.dp va k1.1 ra.rv
        have d2 : Dp X.K H y (.list (dats vs)) := RV.dp (.lst vs) k2.1 rb.rv
        have s2 : SeqAt.shaped (.list (dats vs)) = true := k2.2
        have k3 : (dat va).depth ≤ 32 := Nat.le_of_ble_eq_true k3
        obtain ⟨as, r1⟩ := Dp.reads I (dat va) x v d1 rx
        obtain ⟨bs, r2⟩ := Dp.reads I (.list (dats vs)) y u d2 ry
        have hroom : X.A.units + 1 + min (PyData.depthAll (dats vs)) (dat va).depth < cLine := by
          have := Nat.min_le_right (PyData.depthAll (dats vs)) (dat va).depth
          omega
        cases n
        · exact SeqAt.in_list_reads r2 r1 (SeqAt.canLay_of_shaped s2) (SeqAt.canLay_of_shaped k1.2) hroom ⟨.bl _, H, I, rfl, o⟩
        · exact SeqAt.notIn_list_reads r2 r1 (SeqAt.canLay_of_shaped s2) (SeqAt.canLay_of_shaped k1.2) hroom ⟨.bl _, H, I, rfl, o⟩
    | true =>
      obtain ⟨b, xs, rfl, sb, qb⟩ := rb.lst
      simp only [evIn, e, if_true] at h
      exact fin b xs vs rfl (.inl (SqL.of sb)) qb e h

/-! ### slices -/
def rSlc (K : PySem.W.Frag) (CA : Nat → Option Addr) : V → Option Int → Option Int → Hp → VK → Prop := fun x lo hi H Q => ∃ (va : Val) (P L : Addr → Prop), Trk P H ∧ RVo K CA H P L va x ∧
  match evSlc lo hi va with
  | .ok v => Out K CA H P (v, isLst v) Q
  | _ => False
theorem sl_any : SlR X (rSlc X.K CA) := by
  intro pins s σ H x v vl vu lo hi sl Q I rx hs pl pu h
  obtain ⟨va, P, L, t, ra, h⟩ := h
  cases va <;> first | exact h.elim | skip
  case tup vs =>
    obtain ⟨a, xs, rfl, sa, qa⟩ := ra.tup
    have h : Out X.K CA H P (.tup (cut vs lo hi), false) Q := h
    refine sl_tupA pins s σ H _ v vl vu lo hi sl Q I rx hs pl pu ⟨a, xs, rfl, sa, fun hw => ?_, fun hw => h.newT t (qa.cut lo hi)⟩
    have e : cut vs lo hi = vs := by
      unfold cut
      rw [qa.length, hw.1, hw.2, List.drop_zero, Nat.sub_zero, ← qa.length, List.take_length]
    rw [e] at h
    exact h.here t (.tup sa qa)
  case lst vs =>
    obtain ⟨a, xs, rfl, sa, qa⟩ := ra.lst
    have h : Out X.K CA H P (.lst (cut vs lo hi), true) Q := h
    exact sl_list pins s σ H _ v vl vu lo hi sl Q I rx hs pl pu ⟨a, xs, rfl, SqL.of sa, h.newL t (qa.cut lo hi)⟩
end
section
variable {prog : Program} {w : World} {A : Around} {E : Value → Shared → Prop} {s : Shared}
theorem adjust_rev (n : Nat) : Builtin.Slice.sliceAdjust none none (-1) (n : Int) = ((n : Int) - 1, -1) := by
  unfold Builtin.Slice.sliceAdjust
  simp
theorem places_rev (n : Nat) : Builtin.Slice.slicePlaces ((n : Int) - 1) (-1) (-1) = n := by
  unfold Builtin.Slice.slicePlaces
  cases n with
  | zero => simp
  | succ k => simp <;> omega
theorem fm_map {α β : Type} {f : α → Option β} {g : α → β} : ∀ (l : List α), (∀ m ∈ l, f m = some (g m)) → l.filterMap f = l.map g
  | [], _ => rfl
  | a :: l, h => by
    rw [List.filterMap_cons, h a List.mem_cons_self, List.map_cons, fm_map l fun m hm => h m (List.mem_cons_of_mem _ hm)]
theorem pick_rev (xs : Array Value) : ((List.range xs.size).filterMap fun (m : Nat) => xs[(((xs.size : Int) - 1) + (m : Int) * (-1)).toNat]?).toArray = xs.toList.reverse.toArray := by
  congr 1
  have e : ∀ m ∈ List.range xs.size, xs[(((xs.size : Int) - 1) + (m : Int) * (-1)).toNat]? = some (xs.toList.reverse.getD m .none) := by
    intro m hm
    have hm : m < xs.size := List.mem_range.mp hm
    have e1 : (((xs.size : Int) - 1) + (m : Int) * (-1)).toNat = xs.size - 1 - m := by omega
    have h2 : m < xs.toList.reverse.length := by simpa using hm
    rw [e1, List.getD_eq_getElem?_getD, List.getElem?_eq_getElem h2, List.getElem_reverse]
    rw [Array.getElem?_eq_getElem (by omega)]
    simp
  rw [fm_map _ e]
  refine List.ext_getElem? fun i => ?_
  by_cases hi : i < xs.size
  · have h2 : i < xs.toList.reverse.length := by simpa using hi
    rw [List.getElem?_map, List.getElem?_range hi, List.getElem?_eq_getElem h2]
    show some (xs.toList.reverse.getD i .none) = _
    rw [List.getD_eq_getElem?_getD, List.getElem?_eq_getElem h2]
    rfl
  · rw [List.getElem?_eq_none (by simpa using hi), List.getElem?_eq_none (by simpa using hi)]
theorem getItem_tuple_rev {t sl : Addr} {items : Array Value} {vl vu vs : Value} {Q : Value → Shared → Prop} (ht : IsTup s.heap t items) (hs : s.heap.IsSliceOf sl vl vu vs) (pl : IsPart vl none) (pu : IsPart vu none) (ps : IsPart vs (some (-1)))
    (h : Q (.ref s.heap.objs.size) { s with heap := s.heap.push { cls := .type "tuple", data := .seq items.toList.reverse.toArray } })
    (hsz : items.size ≤ sizeLine) : wpAny (model prog w) A (getItem (.ref t) (.ref sl)) Q E s := by
  have htake : sizeOk (.seq items.toList.reverse.toArray) := by
    show items.toList.reverse.toArray.size ≤ sizeLine
    rw [List.size_toArray, List.length_reverse, Array.length_toList]
    exact hsz
  obtain ⟨os, hos, hcs, hds⟩ := id hs
  have hTs : s.TypeIs (.ref sl) "slice" := ⟨os, hos, hcs⟩
  unfold getItem
  try with_reducible refine wpAny_holding ?_
  first | refine wpAny_bind (wpAny_pure ?_) | skip
  refine wpAny_bind (wpAny_sequenceKey ht.typeIs (by decide) ?_)
  refine wpAny_bind (wpAny_callSpecial?_slot (name := Str.ofString "__getitem__") ht.typeIs PyProof.Rows.slot_tuple_getitem
    (wpAny_call_entry PyProof.Rows.slot_tuple_getitem ht.typeIs entry_tuple_getitem ?_ (args_tuple_getitem _ _)))
  show wpAny _ _ (Builtin.Tuple.tupleItemsOf (.ref t) >>= _) _ _ s
  refine wpAny_bind (tupleItemsOf_ ht ?_)
  refine wpAny_bind (wpAny_typeOf hTs ?_)
  rw [if_pos (by decide)]
  have ha : ∀ {Q : Int × Int × Nat → Shared → Prop} {E : Value → Shared → Prop}, Q ((items.size : Int) - 1, -1, items.size) s → wpAny (model prog w) A.in1 (Builtin.Slice.sliceApplied (.ref sl) (pure (items.size : Int))) Q E s := by
    intro Q E h
    unfold Builtin.Slice.sliceApplied Builtin.Slice.sliceFields
    refine wpAny_bind (wpAny_bind (wpAny_field hos hds (x := vl) rfl (wpAny_bind (wpAny_field hos hds (x := vu) rfl (wpAny_bind (wpAny_field hos hds (x := vs) rfl (wpAny_pure ?_)))))))
    refine wpAny_bind (slicePart_ ps ?_)
    show wpAny _ _ (if ((-1 : Int) == 0) = true then _ else _) _ _ s
    rw [if_neg (by decide)]
    refine wpAny_bind (slicePart_ pl (wpAny_bind (slicePart_ pu (wpAny_bind (wpAny_pure ?_)))))
    show wpAny _ _ (match Builtin.Slice.sliceAdjust none none (-1) (items.size : Int) with | (lo, hi) => pure (lo, (-1 : Int), Builtin.Slice.slicePlaces lo hi (-1))) _ _ s
    rw [adjust_rev]
    show wpAny _ _ (pure ((items.size : Int) - 1, (-1 : Int), Builtin.Slice.slicePlaces ((items.size : Int) - 1) (-1) (-1))) _ _ s
    rw [places_rev]
    exact wpAny_pure h
  refine wpAny_bind (ha ?_)
  have hno : ¬ ((((items.size : Int) - 1) == 0 && (-1 : Int) == 1 && items.size == items.size) = true) := by
    intro q
    rw [Bool.and_eq_true, Bool.and_eq_true] at q
    exact absurd q.1.2 (by decide)
  show wpAny _ _ (if (((items.size : Int) - 1) == 0 && (-1 : Int) == 1 && items.size == items.size) = true then _ else _) _ _ s
  rw [if_neg hno, pick_rev]
  first
    | exact wpAny_bind (m := Builtin.Tuple.tupleExact _) (wpAny_newObj_type (wpAny_pure ⟨_, rfl, wpAny_pure h⟩) htake)
    | exact wpAny_bind (m := Builtin.Tuple.tupleExact _) (wpAny_newObj_type (wpAny_bind (wpAny_pure (wpAny_pure ⟨_, rfl, wpAny_pure h⟩))) htake)
end

section
variable {X : Cx} {CA : Nat → Option Addr}
/-- x[::-1] -/
def tRevA (K : PySem.W.Frag) (CA : Nat → Option Addr) (te : TE) : TE := fun σ H Q => te σ H fun x H1 => ∃ (va : Val) (P L : Addr → Prop), Trk P H1 ∧ RVo K CA H1 P L va x ∧
  match evRev va with
  | .ok v => Out K CA H1 P (v, isLst v) Q
  | _ => False
theorem pe_revA {e : Expr} {te : TE} {k : Nat} {p1 p2 p3 pos : Pos} (he : PE X e te) : PE X (.Subscript e (.Slice none none (some (.UnaryOp .USub (.Constant (.int 1) k p1) p2)) p3) pos) (tRevA X.K CA te) := by
  refine ⟨fun pins s σ H Q I h => ?_⟩
  refine Subscript_ (thn (he.run pins s σ H _ I h) fun v s1 ⟨x, H1, I1, r1, q1⟩ => ?_)
  obtain ⟨va, P, L, t, ra, q⟩ := q1
  have hst : PO X (some (.UnaryOp .USub (.Constant (.int 1) k p1) p2)) (tPart (tUn (rU fun i => .int (-i)) (tC (.int 1)))) := po_some (pe_un un_neg pe_int)
  refine wpAny_Slice (thn (po_none.run pins s1 σ H1 (fun o H2 => o = none ∧ H2 = H1) I1 ⟨rfl, rfl⟩) fun vl s2 ⟨l, H2, I2, pl, el, e2⟩ => ?_)
  subst el e2
  refine thn (po_none.run pins s2 σ H2 (fun o H3 => o = none ∧ H3 = H2) I2 ⟨rfl, rfl⟩) fun vu s3 ⟨u, H3, I3, pu, eu, e3⟩ => ?_
  subst eu e3
  refine thn (hst.run pins s3 σ H3 (fun o H4 => o = some (-1) ∧ H4 = H3) I3 ⟨1, rfl, -1, rfl, rfl, rfl⟩) fun vs s4 ⟨o, H4, I4, ps, eo, e4⟩ => ?_
  subst eo e4
  have I5 : Inv X pins σ H4 { s4 with heap := s4.heap.push { cls := .type "slice", data := .fields #[vl, vu, vs] } } := I4.kept (t' := s4.toks) fun b ob q => Heap.get?_push_of_some _ q
  cases va <;> first | exact q.elim | skip
  case tup ws =>
    obtain ⟨a, xs, rfl, hx, qx⟩ := ra.tup
    cases r1
    obtain ⟨its, r, ht, hz⟩ := I5.tuple hx
    have hlen := r.length
    show wpAny (model X.prog X.w) X.A (subscriptTail e (.Slice none none (some (.UnaryOp .USub (.Constant (.int 1) k p1) p2)) p3) (.ref a) (.ref s4.heap.objs.size)) (EP X pins σ Q) X.xe { s4 with heap := s4.heap.push { cls := .type "slice", data := .fields #[vl, vu, vs] } }
    refine tail_any (ops := [.ref a, .ref s4.heap.objs.size]) ht.typeIs (PyProof.Rows.slot_tuple_getitem.lookup) ?_ (by with_unfolding_all rfl)
    refine getItem_tuple_rev ht (Heap.IsSliceOf.new _ vl vu vs) pl pu ps ?_ (by rw [List.size_toArray]; omega)
    have q : Out X.K CA H4 P (.tup ws.reverse, false) Q := q
    refine ⟨.ref _, _, I5.laid (t' := s4.toks) (o := .tup xs.reverse) (fun b ob q => Heap.get?_push_of_some _ q) (Nat.le_refl _) ?_, rfl, q.newT t qx.reverse _ (I5.hok.fresh (Nat.le_refl _))⟩
    exact ⟨by rw [List.length_reverse]; exact hz, _, r.reverse, ⟨_, Heap.get?_push_size _ rfl, rfl, 0, rfl⟩⟩
  case lst ws =>
    obtain ⟨a, xs, rfl, hx, qx⟩ := ra.lst
    cases r1
    obtain ⟨its, r, ht, hz⟩ := I5.list (SqL.of hx)
    have hlen := r.length
    show wpAny (model X.prog X.w) X.A (subscriptTail e (.Slice none none (some (.UnaryOp .USub (.Constant (.int 1) k p1) p2)) p3) (.ref a) (.ref s4.heap.objs.size)) (EP X pins σ Q) X.xe { s4 with heap := s4.heap.push { cls := .type "slice", data := .fields #[vl, vu, vs] } }
    refine tail_any (ops := [.ref a, .ref s4.heap.objs.size]) ht.isList.typeIs (PySem.slot_list_getitem.lookup) ?_ (by with_unfolding_all rfl)
    refine wpAny_getItem_list_slice ht.isList (Heap.IsSliceOf.new _ vl vu vs) pl pu ps (by decide) ?_ (by rw [List.size_toArray]; omega)
    rw [PySem.W.krv_pick]
    have q : Out X.K CA H4 P (.lst ws.reverse, true) Q := q
    refine ⟨.ref _, _, I5.laid (t' := s4.toks) (o := .lst xs.reverse) (fun b ob q => Heap.get?_push_of_some _ q) (Nat.le_refl _) ?_, rfl, q.newL t qx.reverse _ (I5.hok.fresh (Nat.le_refl _))⟩
    exact ⟨by rw [List.length_reverse]; exact hz, _, 0, r.reverse, Heap.get?_push_size _ rfl⟩
/-! ### truth -/
theorem tru_any {K : PySem.W.Frag} {H : Hp} {P L : Addr → Prop} {v : Val} {x : V} {b : Bool} (r : RVo K CA H P L v x) (h : truth v = .ok b) : TruV K x H b := by
  cases v <;> first | (cases h; done) | skip
  case non => cases r.non; cases h; rfl
  case bl k => cases r.bl; cases h; rfl
  case int i => cases r.int; cases h; rfl
  case tup vs =>
    obtain ⟨a, xs, rfl, s, t⟩ := r.tup
    cases h
    refine .inr (.inl ⟨xs, s, ?_⟩)
    cases t <;> rfl
  case lst vs =>
    obtain ⟨a, xs, rfl, s, t⟩ := r.lst
    cases h
    refine .inl ⟨xs, SqL.of s, ?_⟩
    cases t <;> rfl
  case scr ns =>
    obtain ⟨a, rfl, s⟩ := r.scr
    cases h
    refine .inl ⟨_, s.l, ?_⟩
    cases ns <;> rfl
end
end G

set_option linter.all false
set_option maxHeartbeats 2000000
set_option maxRecDepth 100000
/-! G3c: built-in functions, isinstance, by values. -/
namespace G
open PySem PySem.Spec PyProof.Rows L2 HT
abbrev RVos (K : PySem.W.Frag) (CA : Nat → Option Addr) (H : Hp) (P L : Addr → Prop) : List Val → List V → Prop := Paired (RVo K CA H P L)
def rBf (K : PySem.W.Frag) (CA : Nat → Option Addr) (f : Bf) : List V → Hp → VK → Prop := fun xs H Q => ∃ (vs : List Val) (P L : Addr → Prop), Trk P H ∧ RVos K CA H P L vs xs ∧
  match evBf f vs with
  | .ok v => Out K CA H P (v, isLst v) Q
  | _ => False
def bfN : Bf → Str
  | .len => "len"
  | .abs => "abs"
  | .max2 => "max"
  | .min2 => "min"
  | .int => "int"
  | .list => "list"
  | .tuple => "tuple"
  | .maxL => "max"
  | .minL => "min"
  | .cnt => "len"
  | .idx => "len"
def bfV : Bf → Value
  | .len => .builtin "len"
  | .abs => .builtin "abs"
  | .max2 => .builtin "max"
  | .min2 => .builtin "min"
  | .int => .type "int"
  | .list => .type "list"
  | .tuple => .type "tuple"
  | .maxL => .builtin "max"
  | .minL => .builtin "min"
  | .cnt => .builtin "list.count"
  | .idx => .builtin "list.index"
/-- a name of its own stands for it -/
def bfFn : Bf → Bool
  | .cnt => false
  | .idx => false
  | _ => true
theorem intsOf_rv {K : PySem.W.Frag} {CA : Nat → Option Addr} {H : Hp} {P : Addr → Prop} : ∀ {vs : List Val} {xs : List V} {ns : List Int}, intsOf vs = some ns → RVs K CA H P vs xs → xs = ns.map V.int
  | _, _, _, e, .nil => by cases e; rfl
  | .int i :: vs, _, ns, e, .cons r t => by
    simp only [intsOf] at e
    cases h : intsOf vs with
    | none => rw [h] at e; cases e
    | some ms =>
      rw [h] at e
      cases e
      cases r
      rw [intsOf_rv h t]; rfl
  | .non :: _, _, _, e, _ => by cases e
  | .bl _ :: _, _, _, e, _ => by cases e
  | .str _ :: _, _, _, e, _ => by cases e
  | .tup _ :: _, _, _, e, _ => by cases e
  | .lst _ :: _, _, _, e, _ => by cases e
  | .exc _ :: _, _, _, e, _ => by cases e
  | .scr _ :: _, _, _, e, _ => by cases e
theorem maxI_spec : ∀ (a : Int) (r : List Int), maxI (a :: r) ∈ (a :: r) ∧ ∀ y ∈ (a :: r), y ≤ maxI (a :: r)
  | a, [] => ⟨by simp [maxI], fun y h => by simp at h; simp [maxI, h]⟩
  | a, b :: r => by
    obtain ⟨h1, h2⟩ := maxI_spec b r
    show (if maxI (b :: r) > a then maxI (b :: r) else a) ∈ _ ∧ ∀ y ∈ _, y ≤ (if maxI (b :: r) > a then maxI (b :: r) else a)
    split
    · refine ⟨List.mem_cons_of_mem _ h1, fun y h => ?_⟩
      rcases List.mem_cons.mp h with rfl | h
      · omega
      · exact h2 y h
    · refine ⟨List.mem_cons_self, fun y h => ?_⟩
      rcases List.mem_cons.mp h with rfl | h
      · exact Int.le_refl _
      · have := h2 y h; omega
theorem minI_spec : ∀ (a : Int) (r : List Int), minI (a :: r) ∈ (a :: r) ∧ ∀ y ∈ (a :: r), minI (a :: r) ≤ y
  | a, [] => ⟨by simp [minI], fun y h => by simp at h; simp [minI, h]⟩
  | a, b :: r => by
    obtain ⟨h1, h2⟩ := minI_spec b r
    show (if minI (b :: r) < a then minI (b :: r) else a) ∈ _ ∧ ∀ y ∈ _, (if minI (b :: r) < a then minI (b :: r) else a) ≤ y
    split
    · refine ⟨List.mem_cons_of_mem _ h1, fun y h => ?_⟩
      rcases List.mem_cons.mp h with rfl | h
      · omega
      · exact h2 y h
    · refine ⟨List.mem_cons_self, fun y h => ?_⟩
      rcases List.mem_cons.mp h with rfl | h
      · exact Int.le_refl _
      · have := h2 y h; omega
section
variable {X : Cx} {CA : Nat → Option Addr}
theorem pair1 {α β : Type} {R : α → β → Prop} {a : α} {ys : List β} (h : Paired R [a] ys) : ∃ y, ys = [y] ∧ R a y := by
  cases h with
  | cons r t => cases t; exact ⟨_, rfl, r⟩
theorem pair2 {α β : Type} {R : α → β → Prop} {a b : α} {ys : List β} (h : Paired R [a, b] ys) : ∃ y z, ys = [y, z] ∧ R a y ∧ R b z := by
  cases h with
  | cons r t => cases t with
    | cons r2 t2 => cases t2; exact ⟨_, _, rfl, r, r2⟩
theorem call_b1 (hc : X.calm = true) (f : Bf) (va : Val) {pins : List (Addr × Obj)} {s : Shared} {σ : L2.St} {H : Hp} {us : List Value} {Q : VK} {x : V} {P L : Addr → Prop} (I : Inv X pins σ H s) (r : Vals [x] us) (t : Trk P H)
    (r1 : RVo X.K CA H P L va x) (h : match evB1 f va with | .ok v => Out X.K CA H P (v, isLst v) Q | _ => False) : wpAny (model X.prog X.w) X.A (call (bfV f) us) (EP X pins σ Q) X.xe s := by
  revert h
  cases f <;> cases va <;> first | exact fun h => h.elim | intro h
  case len.lst ws =>
    obtain ⟨a, ys, rfl, sa, qa⟩ := r1.lst
    refine call_len pins s σ H _ us Q I r ⟨_, ys.length, rfl, .inl ⟨ys, SqL.of sa, rfl⟩, ?_⟩
    have h : Out X.K CA H P (.int ws.length, false) Q := h
    rw [qa.length] at h
    exact h.int t
  case len.tup ws =>
    obtain ⟨a, ys, rfl, sa, qa⟩ := r1.tup
    refine call_len pins s σ H _ us Q I r ⟨_, ys.length, rfl, .inr ⟨ys, sa, rfl⟩, ?_⟩
    have h : Out X.K CA H P (.int ws.length, false) Q := h
    rw [qa.length] at h
    exact h.int t
  case len.scr ns =>
    obtain ⟨a, rfl, sa⟩ := r1.scr
    refine call_len pins s σ H _ us Q I r ⟨_, (ns.map V.int).length, rfl, .inl ⟨_, sa.l, rfl⟩, ?_⟩
    have h : Out X.K CA H P (.int ns.length, false) Q := h
    rw [List.length_map]
    exact h.int t
  case abs.int i =>
    cases r1.int
    exact call_abs pins s σ H _ us Q I r ⟨_, rfl, h.int t⟩
  case int.int i =>
    cases r1.int
    exact call_int1 pins s σ H _ us Q I r (.inl ⟨_, rfl, h.int t⟩)
  case int.bl k =>
    cases r1.bl
    exact call_int1 pins s σ H _ us Q I r (.inr ⟨_, rfl, h.int t⟩)
  case list.lst ws =>
    obtain ⟨a, ys, rfl, sa, qa⟩ := r1.lst
    exact call_list_of pins s σ H _ us Q I r ⟨a, ys, rfl, .inl (SqL.of sa), h.newL t qa⟩
  case list.tup ws =>
    obtain ⟨a, ys, rfl, sa, qa⟩ := r1.tup
    exact call_list_of pins s σ H _ us Q I r ⟨a, ys, rfl, .inr sa, h.newL t qa⟩
  case list.scr ns =>
    obtain ⟨a, rfl, sa⟩ := r1.scr
    refine call_list_of pins s σ H _ us Q I r ⟨a, _, rfl, .inl sa.l, h.newL t ?_⟩
    clear sa h r1
    induction ns with
    | nil => exact .nil
    | cons n ns ih => exact .cons (.int n) ih
  case tuple.lst ws =>
    obtain ⟨a, ys, rfl, sa, qa⟩ := r1.lst
    exact call_tuple_of pins s σ H _ us Q I r ⟨a, ys, rfl, .inl ⟨SqL.of sa, h.newT t qa⟩⟩
  case tuple.tup ws =>
    obtain ⟨a, ys, rfl, sa, qa⟩ := r1.tup
    exact call_tuple_of pins s σ H _ us Q I r ⟨a, ys, rfl, .inr ⟨sa, h.here t (.tup sa qa)⟩⟩
  case maxL.lst ws =>
    obtain ⟨a, ys, rfl, sa, qa⟩ := r1.lst
    cases e : intsOf ws with
    | none => simp only [evB1, e] at h
    | some ns =>
      cases ns with
      | nil => simp only [evB1, e] at h
      | cons n ns =>
        simp only [evB1, e] at h
        have ey := intsOf_rv e qa
        subst ey
        refine cr_max hc pins s σ H _ us Q I r ⟨a, n :: ns, rfl, SqL.of sa, Nat.succ_pos _, fun m h1 h2 => ?_⟩
        obtain ⟨g1, g2⟩ := maxI_spec n ns
        have em : m = maxI (n :: ns) := Int.le_antisymm (g2 m h1) (h2 _ g1)
        rw [em]
        exact Out.int h t
  case minL.lst ws =>
    obtain ⟨a, ys, rfl, sa, qa⟩ := r1.lst
    cases e : intsOf ws with
    | none => simp only [evB1, e] at h
    | some ns =>
      cases ns with
      | nil => simp only [evB1, e] at h
      | cons n ns =>
        simp only [evB1, e] at h
        have ey := intsOf_rv e qa
        subst ey
        refine cr_min hc pins s σ H _ us Q I r ⟨a, n :: ns, rfl, SqL.of sa, Nat.succ_pos _, fun m h1 h2 => ?_⟩
        obtain ⟨g1, g2⟩ := minI_spec n ns
        have em : m = minI (n :: ns) := Int.le_antisymm (h2 _ g1) (g2 m h1)
        rw [em]
        exact Out.int h t

theorem Vals2 {x y : V} {us : List Value} (h : Vals [x, y] us) : ∃ u w, us = [u, w] ∧ RelV x u ∧ RelV y w := by
  cases h with
  | cons r t => cases t with
    | cons r2 t2 => cases t2; exact ⟨_, _, rfl, r, r2⟩
theorem dp_bl {K : PySem.W.Frag} {H : Hp} {b : Bool} : Dp K H (.bl b) (.bool b) := RV.dp (CA := fun _ => none) (P := fun _ => False) (.bl b) rfl (.bl b)
theorem call_mt (hu : X.A.units + 64 < cLine) (f : Bf) (hf : bfFn f = false) (va : Val) (b : Bool) {pins : List (Addr × Obj)} {s : Shared} {σ : L2.St} {H : Hp} {us : List Value} {Q : VK} {x : V} {P L : Addr → Prop} (I : Inv X pins σ H s) (r : Vals [x, .bl b] us) (t : Trk P H)
    (r1 : RVo X.K CA H P L va x) (h : match evB2 f va (.bl b) with | .ok v => Out X.K CA H P (v, isLst v) Q | _ => False) : wpAny (model X.prog X.w) X.A (call (bfV f) us) (EP X pins σ Q) X.xe s := by
  cases va
  case lst ws =>
    have ho : okD (.lst ws) = true := by
      cases e : okD (.lst ws) with
      | true => rfl
      | false => cases f <;> first | exact absurd hf (by decide) | (simp only [evB2, e] at h; exact h.elim)
    have hD : isD (.lst ws) = true ∧ SeqAt.shaped (dat (.lst ws)) = true := by rw [okD, Bool.and_eq_true] at ho; exact ho
    have d1 : Dp X.K H x (.list (dats ws)) := RV.dp (.lst ws) hD.1 r1.rv
    have sl : SeqAt.shaped (.list (dats ws)) = true := hD.2
    obtain ⟨u, w, rfl, rx, ry⟩ := Vals2 r
    obtain ⟨bs, r2⟩ := Dp.reads I (.bool b) (.bl b) w dp_bl ry
    have hxs : PyData.canLayAll0 (dats ws) = true := SeqAt.canLay_of_shaped sl
    have hd0 : (PyData.bool b).canLay0 = true := rfl
    have hroom : X.A.units + 1 + min (PyData.depthAll (dats ws)) (PyData.bool b).depth < cLine := by
      have e : (PyData.bool b).depth ≤ 1 := by show _ ≤ 1; simp [PyData.depth]
      have := Nat.min_le_right (PyData.depthAll (dats ws)) (PyData.bool b).depth
      omega
    obtain ⟨a, ys, rfl, sa, qa⟩ := r1.lst
    cases rx
    cases d1 with
    | lst hs ha =>
      obtain ⟨its, rv, ⟨⟨cls, dd, data, sls⟩, n, hg, hc, hdn, hdt⟩, hlen⟩ := I.list hs
      simp only at hc hdt
      subst hc hdt
      obtain ⟨as, h4⟩ := Dp.readsAll I (dats ws) _ its ha rv
      have hn : its.length = (dats ws).length := SeqAt.ReadsAll.length (dats ws) its as h4
      have hmap : its.map (SeqAt.readOf s.heap) = dats ws := SeqAt.readsAll_map (dats ws) its as hxs h4
      have hvl := rv.length
      have hsl := sizeLine_eq
      cases f
      case cnt =>
        simp only [evB2, ho, if_true] at h
        have h : Out X.K CA H P (.int ((dats ws).countP fun z => PyData.eqv z (.bool b) : Nat), false) Q := h
        refine call_meets PySem.F.slot_list_count ⟨_, hg, rfl⟩ PySem.F.entry_list_count (PySem.F.args_list_count_2 _ _)
          (SeqAt.list_countAt a its.toArray n dd sls w (fun u => PyData.eqv (SeqAt.readOf s.heap u) (.bool b))) ⟨hg, SeqAt.items_eqAt (vs := its.toArray) (show ReadsAll s.heap its.toArray.toList (dats ws) as from h4) r2 hxs hd0 hroom, ?_⟩
        have ec : its.toArray.toList.countP (fun u => PyData.eqv (SeqAt.readOf s.heap u) (.bool b)) = (dats ws).countP fun z => PyData.eqv z (.bool b) := by
          show its.countP _ = _
          rw [← hmap, List.countP_map]
          rfl
        refine ⟨.int ((dats ws).countP fun z => PyData.eqv z (.bool b) : Nat), H, I.tok _, ⟨s.toks, ?_⟩, h.int t⟩
        rw [ec]
      case idx =>
        simp only [evB2, ho, if_true] at h
        cases ej : (dats ws).findIdx? fun z => PyData.eqv z (.bool b) with
        | none => rw [ej] at h; exact h.elim
        | some j =>
          rw [ej] at h
          have h : Out X.K CA H P (.int (j : Nat), false) Q := h
          obtain ⟨hjd, hit, hno⟩ := List.findIdx?_eq_some_iff_getElem.mp ej
          have hj : j < its.toArray.size := by
            have : its.toArray.size = its.length := rfl
            omega
          have at_ : ∀ (m : Nat) (hm : m < its.toArray.size) (z' : PyData), (dats ws)[m]? = some z' → SeqAt.readOf s.heap its.toArray[m] = z' := by
            intro m hm z' hz'
            have hml : m < its.length := by simpa using hm
            rw [← hmap, List.getElem?_map, List.getElem?_eq_getElem hml] at hz'
            have e1 : SeqAt.readOf s.heap its[m] = z' := Option.some.inj (show some (SeqAt.readOf s.heap its[m]) = some z' from hz')
            simpa using e1
          refine call_meets PySem.F.slot_list_index ⟨_, hg, rfl⟩ PySem.F.entry_list_index (PySem.F.args_list_index_2 _ _)
            (SeqAt.list_indexAt a its.toArray n dd sls w (fun u => PyData.eqv (SeqAt.readOf s.heap u) (.bool b)) j hj (by omega) ?_ ?_) ⟨hg, SeqAt.items_eqAt (vs := its.toArray) (show ReadsAll s.heap its.toArray.toList (dats ws) as from h4) r2 hxs hd0 hroom, ?_⟩
          · show PyData.eqv (SeqAt.readOf s.heap its.toArray[j]) (.bool b) = true
            rw [at_ j hj _ (List.getElem?_eq_getElem hjd)]
            exact hit
          · intro m hm hmj
            have hmd : m < (dats ws).length := by omega
            show PyData.eqv (SeqAt.readOf s.heap its.toArray[m]) (.bool b) = false
            rw [at_ m hm _ (List.getElem?_eq_getElem hmd)]
            simpa using hno m hmj
          · exact ⟨.int (j : Nat), H, I.tok _, ⟨_, rfl⟩, h.int t⟩
      all_goals exact absurd hf (by decide)
  all_goals
    exfalso
    cases f <;> first | exact absurd hf (by decide) | exact h.elim
theorem call_b2 (hc : X.calm = true) (f : Bf) (hf : bfFn f = true) (va vb : Val) {pins : List (Addr × Obj)} {s : Shared} {σ : L2.St} {H : Hp} {us : List Value} {Q : VK} {x y : V} {P L : Addr → Prop} (I : Inv X pins σ H s) (r : Vals [x, y] us) (t : Trk P H)
    (r1 : RVo X.K CA H P L va x) (r2 : RVo X.K CA H P L vb y) (h : match evB2 f va vb with | .ok v => Out X.K CA H P (v, isLst v) Q | _ => False) : wpAny (model X.prog X.w) X.A (call (bfV f) us) (EP X pins σ Q) X.xe s := by
  revert h
  cases f <;> first | exact absurd hf (by decide) | skip
  all_goals cases va <;> cases vb <;> first | exact fun h => h.elim | intro h
  all_goals cases r1.int; cases r2.int
  · exact call_max2 hc pins s σ H _ us Q I r ⟨_, _, rfl, h.int t⟩
  · exact call_min2 hc pins s σ H _ us Q I r ⟨_, _, rfl, h.int t⟩
theorem call_bf (hc : X.calm = true) (f : Bf) (hf : bfFn f = true) : CallR X (bfV f) (rBf X.K CA f) := by
  intro pins s σ H xs us Q I r h
  obtain ⟨vs, P, L, t, ra, h⟩ := h
  match vs, ra, h with
  | [], _, h => exact h.elim
  | _ :: _ :: _ :: _, _, h => exact h.elim
  | [va, vb], ra, h =>
    obtain ⟨x, y, rfl, r1, r2⟩ := pair2 ra
    exact call_b2 hc f hf va vb I r t r1 r2 h
  | [va], ra, h =>
    obtain ⟨x, rfl, r1⟩ := pair1 ra
    exact call_b1 hc f va I r t r1 h
end
end G

set_option linter.all false
set_option maxHeartbeats 2000000
set_option maxRecDepth 100000
/-! G3d: the error classes, isinstance. -/
namespace G
open PySem PySem.Spec PyProof.Rows L2 HT
/-- what the module's written part says of the error class c, at C; the base stands at C0 -/
structure CF (K : PySem.W.Frag) (C0 : Addr) (c : Nat) (C : Addr) : Prop where
  cls : ∃ cd : ClassData, PySem.W.clsIn K C = some cd ∧ cd.mro = (if c = 0 then [.ref C] else [.ref C, .ref C0]) ++ PySem.HandSPX.veTail
  ty : PySem.W.typeIn K (.ref C) = some (.type "type")
  ex : ExcC K C
  made : PySem.W.excIn K C [.type "ValueError", .type "Exception", .type "BaseException", .type "object"] "ValueError.__new__" = true
  kp : PySem.W.keepIn K (.ref C) = true
/-- all classes of the table -/
structure CFs (K : PySem.W.Frag) (CA : Nat → Option Addr) : Prop where
  base : ∃ C0, CA 0 = some C0 ∧ ∀ c C, CA c = some C → CF K C0 c C
  inj : ∀ c d C, CA c = some C → CA d = some C → c = d
section
variable {K : PySem.W.Frag} {CA : Nat → Option Addr}
theorem CF.sub {C0 C : Addr} {c : Nat} (h : CF K C0 c C) (v : Value) : PySem.W.subIn K (.ref C) v = some ((((if c = 0 then [.ref C] else [.ref C, .ref C0]) ++ PySem.HandSPX.veTail : List Value)).contains v) := by
  obtain ⟨cd, h1, h2⟩ := h.cls
  show PySem.W.mroIn K C v = _
  unfold PySem.W.mroIn
  rw [h1]
  show (if cd.mro.isEmpty = true then none else some (cd.mro.contains v)) = _
  rw [h2]
  have e : ((if c = 0 then [Value.ref C] else [Value.ref C, Value.ref C0]) ++ PySem.HandSPX.veTail).isEmpty = false := by
    split <;> rfl
  rw [e]
  rfl
theorem CF.isC {C0 C : Addr} {c : Nat} (h : CF K C0 c C) : ((PySem.W.clsIn K C).isSome && PySem.W.typeIn K (.ref C) == some (.type "type")) = true := by
  obtain ⟨cd, h1, h2⟩ := h.cls
  rw [h1, h.ty]; rfl
theorem CFs.one (T : CFs K CA) {c d : Nat} {C D : Addr} (hc : CA c = some C) (hd : CA d = some D) : PySem.W.kitOne K (.ref C) (.ref D) = some (excSub c d) := by
  obtain ⟨C0, h0, hF⟩ := T.base
  have FC := hF c C hc
  have FD := hF d D hd
  unfold PySem.W.kitOne
  by_cases e : c = d
  · subst e
    rw [hc] at hd
    cases hd
    rw [if_pos (by simp)]
    simp [excSub]
  · have hne : C ≠ D := fun z => e (T.inj c d C hc (by rw [z]; exact hd))
    rw [if_neg (by simpa using hne)]
    show (if ((PySem.W.clsIn K D).isSome && PySem.W.typeIn K (.ref D) == some (.type "type")) = true then PySem.W.subIn K (.ref C) (.ref D) else none) = _
    rw [if_pos FD.isC, FC.sub]
    congr 1
    by_cases hc0 : c = 0
    · subst hc0
      rw [if_pos rfl]
      have : excSub 0 d = false := by
        unfold excSub
        simp; omega
      rw [this, List.contains_eq_mem]
      refine decide_eq_false fun q => ?_
      simp [PySem.HandSPX.veTail] at q
      exact hne q.symm
    · rw [if_neg hc0]
      by_cases hd0 : d = 0
      · subst hd0
        rw [h0] at hd
        cases hd
        simp [excSub, PySem.HandSPX.veTail]
      · have hz : C0 ≠ D := fun z => hd0 (T.inj 0 d C0 h0 (by rw [z]; exact hd)).symm
        have : excSub c d = false := by
          unfold excSub
          simp; omega
        rw [this, List.contains_eq_mem]
        refine decide_eq_false fun q => ?_
        simp [PySem.HandSPX.veTail] at q
        rcases q with q | q
        · exact hne q.symm
        · exact hz q.symm
theorem CFs.val (T : CFs K CA) {c : Nat} {C : Addr} (hc : CA c = some C) {n : String} {b : Bool} (hm : PySem.W.kitMeta n = true) (h : PySem.HandSPX.veTail.contains (.type n) = b) : PySem.W.kitOne K (.ref C) (.type n) = some b := by
  obtain ⟨C0, h0, hF⟩ := T.base
  have FC := hF c C hc
  unfold PySem.W.kitOne
  rw [if_neg (by simp)]
  show (if PySem.W.kitMeta n = true then PySem.W.subIn K (.ref C) (.type n) else none) = _
  rw [if_pos hm, FC.sub]
  congr 1
  rw [← h, List.contains_eq_mem, List.contains_eq_mem]
  split <;> simp
theorem CFs.no (T : CFs K CA) {d : Nat} {D : Addr} (hd : CA d = some D) {t : String} {l : List Value} (hm : fastBuiltinMro t = some l) (hl : l.all (fun v => match v with | .type _ => true | _ => false) = true) : PySem.W.kitOne K (.type t) (.ref D) = some false := by
  obtain ⟨C0, h0, hF⟩ := T.base
  have FD := hF d D hd
  unfold PySem.W.kitOne
  rw [if_neg (by simp)]
  show (if ((PySem.W.clsIn K D).isSome && PySem.W.typeIn K (.ref D) == some (.type "type")) = true then PySem.W.subIn K (.type t) (.ref D) else none) = _
  rw [if_pos FD.isC]
  show (fastBuiltinMro t).map (·.contains (.ref D)) = _
  rw [hm]
  show some (l.contains (.ref D)) = _
  congr 1
  cases e : l.contains (.ref D) with
  | false => rfl
  | true =>
    have := List.all_eq_true.mp hl (.ref D) (by simpa using e)
    cases this
end

/-- a class as a value -/
def clsV (CA : Nat → Option Addr) : Cl → V → Value → Prop
  | .own d, v, w => ∃ D, CA d = some D ∧ v = .ref D ∧ w = .ref D
  | .ty n, v, w => v = .ty n ∧ w = .type n
theorem clsV.is {CA : Nat → Option Addr} {c : Cl} {v : V} {w : Value} (h : clsV CA c v w) : ClsV v w := by
  cases c with
  | own d => obtain ⟨D, _, rfl, rfl⟩ := h; exact .own D
  | ty n => obtain ⟨rfl, rfl⟩ := h; exact .ty n
section
variable {X : Cx} {CA : Nat → Option Addr} {pins : List (Addr × Obj)} {σ : L2.St} {H : Hp} {s : Shared} {P L : Addr → Prop}
theorem tyX_of {v : Val} {x : V} {n : String} (r : RVo X.K CA H P L v x) (h : tyOf v = some n) : TyX X.K H x (.type n) := by
  cases v <;> first | (cases h; done) | skip
  case non => cases r.non; cases h; exact .base .non
  case bl k => cases r.bl; cases h; exact .base (.bl k)
  case int i => cases r.int; cases h; exact .base (.int i)
  case str z => cases r.str; cases h; exact .base (.str z)
  case tup vs =>
    obtain ⟨a, xs, rfl, sa, t⟩ := r.tup
    cases h
    rcases sa with (sa | ⟨o, sa⟩) | ⟨o, its, n, e, c, _⟩
    · exact .base (.tup sa)
    · exact .fTuple sa
    · exact .kTuple e c
  case lst vs =>
    obtain ⟨a, xs, rfl, sa, t⟩ := r.lst
    cases h
    exact .base (.lst sa)
  case scr ns =>
    obtain ⟨a, rfl, sa⟩ := r.scr
    cases h
    rcases sa with ⟨o, sa⟩ | ⟨o, its, n, e, c, _⟩
    · exact .base (.frz sa)
    · exact .kList e c
theorem mro_some : ∀ n ∈ ["NoneType", "bool", "int", "str", "tuple", "list"], ∃ l, fastBuiltinMro n = some l ∧ l.all (fun v => match v with | .type _ => true | _ => false) = true := by
  intro n hn
  simp only [List.mem_cons, List.not_mem_nil, or_false] at hn
  rcases hn with rfl | rfl | rfl | rfl | rfl | rfl
  · exact ⟨[.type "NoneType", .type "object"], by decide +kernel, by decide +kernel⟩
  · exact ⟨[.type "bool", .type "int", .type "object"], by decide +kernel, by decide +kernel⟩
  · exact ⟨[.type "int", .type "object"], by decide +kernel, by decide +kernel⟩
  · exact ⟨[.type "str", .type "object"], by decide +kernel, by decide +kernel⟩
  · exact ⟨[.type "tuple", .type "object"], by decide +kernel, by decide +kernel⟩
  · exact ⟨[.type "list", .type "object"], by decide +kernel, by decide +kernel⟩
theorem tyOf_mem {v : Val} {n : String} (h : tyOf v = some n) : n ∈ ["NoneType", "bool", "int", "str", "tuple", "list"] := by
  cases v <;> simp [tyOf] at h <;> subst h <;> decide
theorem ty_kit : ∀ n ∈ ["NoneType", "bool", "int", "str", "tuple", "list"], ∀ (T : String) (b : Bool), tySub n T = some b → kitB n T = some b := by
  intro n hn T b h
  unfold tySub at h
  have go : ∀ T ∈ ["int", "bool", "tuple", "list", "str", "ValueError"], ∀ n ∈ ["NoneType", "bool", "int", "str", "tuple", "list"], kitB n T = (if T = "int" then some (n == "int" || n == "bool") else if T = "ValueError" then some false else some (n == T)) := by decide +kernel
  split at h
  · rename_i e; subst e; rw [go _ (by decide) n hn, if_pos rfl]; exact h
  · split at h
    · rename_i e; subst e; rw [go _ (by decide) n hn]; exact h
    · split at h
      · rename_i e; subst e; rw [go _ (by decide) n hn]; exact h
      · split at h
        · rename_i e; subst e; rw [go _ (by decide) n hn]; exact h
        · split at h
          · rename_i e; subst e; rw [go _ (by decide) n hn]; exact h
          · split at h
            · rename_i e; subst e; rw [go _ (by decide) n hn]; exact h
            · cases h
/-- a value's type, and the answer for one class -/
theorem kit_any (T : CFs X.K CA) (I : Inv X pins σ H s) {v : Val} {x : V} {u : Value} (r : RVo X.K CA H P L v x) (rx : RelV x u) :
    ∃ (t : Value) (Z : Heap → Prop), PySem.W.KitX X.K u t Z ∧ Z s.heap ∧ u ≠ .builtin "__main__.__loader__#opaque" ∧ ∀ c cv cw b, isi1 v c = .ok b → clsV CA c cv cw → PySem.W.kitOne X.K t cw = some b := by
  cases e : tyOf v with
  | some n =>
    obtain ⟨Z, k, z, hu⟩ := kit_of I rx (tyX_of r e)
    refine ⟨.type n, Z, k, z, hu, fun c cv cw b h hc => ?_⟩
    cases c with
    | ty m =>
      obtain ⟨rfl, rfl⟩ := hc
      have h2 : ofO (tySub n m) = .ok b := by
        unfold isi1 at h
        cases v <;> first | (cases e; done) | (simp only [e] at h; exact h)
      cases h3 : tySub n m with
      | none => rw [h3] at h2; cases h2
      | some b' =>
        rw [h3] at h2
        cases h2
        exact kit_ty (ty_kit n (tyOf_mem e) m b h3)
    | own d =>
      obtain ⟨D, hd, rfl, rfl⟩ := hc
      have h2 : b = false := by
        unfold isi1 at h
        cases v <;> first | (cases e; done) | (cases h; rfl)
      subst h2
      obtain ⟨l, hl, hl2⟩ := mro_some n (tyOf_mem e)
      exact T.no hd hl hl2
  | none =>
    cases v <;> first | (cases e; done) | skip
    case exc c =>
      cases r.of rfl with
      | @exc a C _ hc ha =>
        cases rx
        obtain ⟨C0, h0, hF⟩ := T.base
        have E := (hF c C hc).ex
        obtain ⟨⟨oe, vs, hg, hz, hd⟩, _⟩ := (show ObjOk X.prog X.w H s.heap a (ExT (.ref C) a) from I.hok a _ ha)
        have J : PySem.W.InstAt s.heap a oe C none := by
          obtain ⟨oc, od, oda, osl⟩ := oe
          obtain ⟨h1, h2⟩ := hz
          dsimp only at h1 h2 hd
          subst h1 h2 hd
          exact ⟨hg, rfl, rfl, trivial⟩
        refine ⟨.ref C, fun h => PySem.W.InstAt h a oe C none, PySem.W.handS_kitx_exc E.hg E.hk E.hs E.hd E.ha E.hn E.ht E.hm, J, (by intro z; cases z), fun d cv cw b h hcl => ?_⟩
        cases d with
        | own d =>
          obtain ⟨D, hd, rfl, rfl⟩ := hcl
          cases h
          exact T.one hc hd
        | ty n =>
          obtain ⟨rfl, rfl⟩ := hcl
          simp only [isi1] at h
          split at h
          · rename_i e; subst e; cases h
            exact T.val hc (by decide +kernel) (by decide +kernel)
          · split at h
            · rename_i e; cases h
              rcases e with e | e | e | e | e <;> subst e <;> exact T.val hc (by decide +kernel) (by decide +kernel)
            · cases h
/-- isinstance(x, C), isinstance(x, (C, ..)) -/
def rIs1 (K : PySem.W.Frag) (CA : Nat → Option Addr) (c : Cl) : List V → Hp → VK → Prop := fun xs H Q => ∃ (va : Val) (P L : Addr → Prop) (x cv : V) (cw : Value) (b : Bool), xs = [x, cv] ∧ Trk P H ∧ RVo K CA H P L va x ∧ clsV CA c cv cw ∧ isi1 va c = .ok b ∧ Q (.bl b) H
def rIsA (K : PySem.W.Frag) (CA : Nat → Option Addr) (cs : List Cl) : List V → Hp → VK → Prop := fun xs H Q => ∃ (va : Val) (P L : Addr → Prop) (x : V) (tp : Addr) (cvs : List V) (cws : List Value) (b : Bool), xs = [x, .ref tp] ∧ Trk P H ∧ RVo K CA H P L va x ∧
  H tp = some (.tup cvs) ∧ Paired (fun c (p : V × Value) => clsV CA c p.1 p.2) cs (cvs.zip cws) ∧ cvs.length = cws.length ∧ isiA va cs = .ok b ∧ Q (.bl b) H
theorem call_is1 (T : CFs X.K CA) (c : Cl) : CallR X (.builtin "isinstance") (rIs1 X.K CA c) := by
  intro pins s σ H xs us Q I r h
  obtain ⟨va, P, L, x, cv, cw, b, rfl, t, ra, hc, e, q⟩ := h
  obtain ⟨u1, u2, rfl, r1, r2⟩ := vals2 r
  have e2 := hc.is.eq r2
  subst e2
  obtain ⟨ty, Z, k, z, hu, hk⟩ := kit_any T I ra r1
  exact PySem.W.kia_one k I.kIn z (hk c cv u2 b e hc) hu fun tk => ⟨.bl b, H, I.tok tk, rfl, q⟩
theorem call_isA (T : CFs X.K CA) (cs : List Cl) : CallR X (.builtin "isinstance") (rIsA X.K CA cs) := by
  intro pins s σ H xs us Q I r h
  obtain ⟨va, P, L, x, tp, cvs, cws, b, rfl, t, ra, hT, hp, hlen, e, q⟩ := h
  obtain ⟨u1, u2, rfl, r1, r2⟩ := vals2 r
  cases (show u2 = Value.ref tp from r2)
  obtain ⟨ty, Z, k, z, hu, hk⟩ := kit_any T I ra r1
  obtain ⟨_, its, rv, o, h1, h2, n, h3⟩ := (show ObjOk X.prog X.w H s.heap tp (.tup cvs) from I.hok tp _ hT)
  have e3 : its = cws := by
    have : ∀ (cs : List Cl) (cvs : List V) (cws its : List Value), Paired (fun c (p : V × Value) => clsV CA c p.1 p.2) cs (cvs.zip cws) → cvs.length = cws.length → Vals cvs its → its = cws := by
      intro cs cvs
      induction cvs generalizing cs with
      | nil =>
        intro cws its _ hl hv
        cases hv
        cases cws with
        | nil => rfl
        | cons _ _ => cases hl
      | cons c cvs ih =>
        intro cws its hp hl hv
        cases cws with
        | nil => cases hl
        | cons w ws =>
          cases hv with
          | cons rv1 rv2 =>
            rw [List.zip_cons_cons] at hp
            cases hp with
            | cons p1 p2 => rw [p1.is.eq rv1, ih _ ws _ p2 (Nat.succ.inj hl) rv2]
    exact this cs cvs cws its hp hlen rv
  subst e3
  obtain ⟨oc, od, dt, sl⟩ := o
  simp only at h2 h3
  subst h2 h3
  have ek : PySem.W.kitAny X.K ty its = some b := by
    have : ∀ (cs : List Cl) (cvs : List V) (cws : List Value), Paired (fun c (p : V × Value) => clsV CA c p.1 p.2) cs (cvs.zip cws) → cvs.length = cws.length → isiA va cs = .ok b → PySem.W.kitAny X.K ty cws = some b := by
      intro cs
      induction cs with
      | nil =>
        intro cvs cws hp hl e
        cases cvs with
        | nil =>
          cases cws with
          | nil => cases e; rfl
          | cons _ _ => cases hl
        | cons _ _ =>
          cases cws with
          | nil => cases hl
          | cons _ _ => cases hp
      | cons c cs ih =>
        intro cvs cws hp hl e
        cases cvs with
        | nil => cases hp
        | cons cv cvs =>
          cases cws with
          | nil => cases hl
          | cons w ws =>
            rw [List.zip_cons_cons] at hp
            cases hp with
            | cons p1 p2 =>
              obtain ⟨b1, e1, e2⟩ := R.bind_eq_ok e
              refine kitAny_cons (hk c cv w b1 e1 p1) (fun hb => ?_) (fun hb => ?_)
              · subst hb
                exact ih cvs ws p2 (Nat.succ.inj hl) e2
              · subst hb
                cases e2; rfl
    exact this cs cvs its hp hlen e
  exact PySem.W.kia_tup k I.kIn z h1 ek hu fun tk => ⟨.bl b, H, I.tok tk, rfl, q⟩
end
end G

set_option linter.all false
set_option maxHeartbeats 2000000
set_option maxRecDepth 100000
/-! G4: expressions. -/
namespace G
open PySem PySem.Spec PyProof.Rows L2 HT
section
variable {K : PySem.W.Frag} {CA : Nat → Option Addr} {H H1 H' H2 : Hp} {H0 : Bs} {P P1 P' P2 L M : Addr → Prop} {σ : L2.St} {W : WX} {env : Env}
/-- what an evaluation's outcome asks -/
def ResG {α : Type} (CA : Nat → Option Addr) (H : Hp) (σ : L2.St) (W : WX) (post : α → Prop) (r : R α) : Prop := match r with
  | .ok a => post a
  | .exc c => ∀ H' C, Same H H' → CA c = some C → W (.ref C) none σ H'
  | .bad => False
theorem ResG.bind {α β : Type} {r : R α} {f : α → R β} {post : β → Prop} (h : ResG CA H σ W post (r.bind f)) : ResG CA H σ W (fun a => ResG CA H σ W post (f a)) r := by
  cases r <;> exact h
theorem ResG.map {α β : Type} {r : R α} {f : α → β} {post : β → Prop} (h : ResG CA H σ W post (r.map f)) : ResG CA H σ W (fun a => post (f a)) r := by
  cases r <;> exact h
theorem ResG.imp {α : Type} {r : R α} {post post' : α → Prop} (h : ResG CA H σ W post r) (i : ∀ a, post a → post' a) : ResG CA H σ W post' r := by
  cases r
  · exact i _ h
  · exact h
  · exact h
theorem ResG.at {α : Type} {r : R α} {post : α → Prop} (h : ResG CA H σ W post r) (s : Same H H1) : ResG CA H1 σ W post r := by
  cases r
  · exact h
  · exact fun H' C q e => h H' C (s.trans q) e
  · exact h
theorem Out.at {p : Val × Bool} {Q : VK} (o : Out K CA H P p Q) (st : Step P H P1 H1) : Out K CA H1 P1 p Q := fun H' P' x s r => o H' P' x (st.trans s) (r.back st.s)
/-- what follows an operand -/
def OutO (K : PySem.W.Frag) (CA : Nat → Option Addr) (H : Hp) (P L : Addr → Prop) (v : Val) (Q : VK) : Prop := ∀ H' P' x, Step P H P' H' → RVo K CA H' P' L v x → Q x H'
def tE (K : PySem.W.Frag) (CA : Nat → Option Addr) (cl : Nat → List Val → R (Val × Bool)) (H0 : Bs) (W : WX) (e : E) : TE := fun σ H Q => ∃ env P, ER K CA H0 H P env σ ∧ ResG CA H σ W (fun p => Out K CA H P p Q) (evE cl e env)
def tO (K : PySem.W.Frag) (CA : Nat → Option Addr) (cl : Nat → List Val → R (Val × Bool)) (H0 : Bs) (W : WX) (e : E) : TE := fun σ H Q => ∃ env P, ER K CA H0 H P env σ ∧ ResG CA H σ W (fun v => OutO K CA H P (LA env σ e) v Q) (opd env e (evE cl e env))
def tT (K : PySem.W.Frag) (CA : Nat → Option Addr) (cl : Nat → List Val → R (Val × Bool)) (H0 : Bs) (W : WX) (e : E) : TT := fun σ H Q => ∃ env P, ER K CA H0 H P env σ ∧ ResG CA H σ W (fun b => ∀ H' P', Step P H P' H' → Q b H') (evT cl e env)
def tEs (K : PySem.W.Frag) (CA : Nat → Option Addr) (cl : Nat → List Val → R (Val × Bool)) (H0 : Bs) (W : WX) (es : List E) : TA := fun σ H Q => ∃ env P, ER K CA H0 H P env σ ∧ ResG CA H σ W (fun vs => ∀ H' P' xs, Step P H P' H' → RVs K CA H' P' vs xs → Q xs H') (evEs cl es env)
/-- what arguments may be beside the frozen -/
def LAs (env : Env) (σ : L2.St) (es : List E) (a : Addr) : Prop := ∃ e ∈ es, LA env σ e a
def tAs (K : PySem.W.Frag) (CA : Nat → Option Addr) (cl : Nat → List Val → R (Val × Bool)) (H0 : Bs) (W : WX) (es : List E) : TA := fun σ H Q => ∃ env P, ER K CA H0 H P env σ ∧ ResG CA H σ W (fun vs => ∀ H' P' xs, Step P H P' H' → RVos K CA H' P' (LAs env σ es) vs xs → Q xs H') (evAs cl es env)
theorem RVo.wid {v : Val} {x : V} (h : RVo K CA H P L v x) (i : ∀ a, L a → M a) : RVo K CA H P M v x := by
  rcases h with h | ⟨a, xs, vs, h1, h2⟩
  · exact .inl h
  · exact .inr ⟨a, xs, vs, i a h1, h2⟩
theorem RVos.mono : ∀ {vs : List Val} {xs : List V}, RVos K CA H P L vs xs → Same H H' → (∀ a, P a → P' a) → (∀ a, L a → M a) → RVos K CA H' P' M vs xs
  | _, _, .nil, _, _, _ => .nil
  | _, _, .cons r t, s, g, i => .cons ((r.mono s g).wid i) (RVos.mono t s g i)
variable {cl : Nat → List Val → R (Val × Bool)}
/-- a value is an operand -/
theorem tO_of {e : E} {Q : VK} (hb : ∀ i, e ≠ .bor i) (h : tO K CA cl H0 W e σ H Q) : tE K CA cl H0 W e σ H Q := by
  obtain ⟨env, P, er, h⟩ := h
  have e1 : opd env e (evE cl e env) = (evE cl e env).map (·.1) := by
    cases e <;> first | rfl | exact absurd rfl (hb _)
  rw [e1] at h
  refine ⟨env, P, er, h.map.imp fun p o H' P' x st r => ?_⟩
  obtain ⟨P3, st3, g3, r3⟩ := r.rv st
  exact o H' P3 x st3 (.inl r3)
theorem tE_nb {e : E} (hb : ∀ i, e ≠ .bor i) {env : Env} : opd env e (evE cl e env) = (evE cl e env).map (·.1) := by
  cases e <;> first | rfl | exact absurd rfl (hb _)
end

/-- the three readings of an expression -/
structure V3 (CA : Nat → Option Addr) (cl : Nat → List Val → R (Val × Bool)) (H0 : Bs) (X : Cx) (src : Expr) (e : E) : Prop where
  val : ∀ W, Takes X W → PE X src (tE X.K CA cl H0 W e)
  opd : ∀ W, Takes X W → PE X src (tO X.K CA cl H0 W e)
  tst : ∀ W, Takes X W → PT X src (tT X.K CA cl H0 W e)
/-- no star, no slice, no set -/
def okSrc : Expr → Bool
  | .Starred _ _ => false
  | .Slice _ _ _ _ => false
  | .Set _ _ _ => false
  | _ => true
theorem okSrc.st {e : Expr} (h : okSrc e = true) (es : List Expr) (env : PySem.Env) : starEach (e :: es) env = (false, eval e env) :: starEach es env := by
  cases e <;> first | rfl | cases h
theorem okSrc.pi {e : Expr} (h : okSrc e = true) : PlainIx e := by
  intro o i
  cases e <;> first | rfl | cases h
theorem okSrc.fs {e : Expr} (h : okSrc e = true) (env : PySem.Env) (x : Value) : foldedSetIterable e env x = pure x := by
  cases e <;> first | rfl | cases h
theorem okSrc.bm {e : Expr} (h : okSrc e = true) (op : CmpOp) : behindInMarks op e = false := by
  cases e <;> first | rfl | cases h
/-- a test is its value's truth -/
def okTst : Expr → Bool
  | .UnaryOp .Not _ _ => false
  | .BoolOp _ _ _ => false
  | .IfExp _ _ _ _ => false
  | .Compare _ _ _ _ => false
  | _ => true
theorem okTst.he {e : Expr} (h : okTst e = true) (env : PySem.Env) (whole : Sem Value) : isTrue e env whole = (do let v ← whole; standAt e.pos; holding [v] (truthy v)) := by
  cases e with
  | UnaryOp op x p => cases op <;> first | rfl | cases h
  | _ => first | rfl | cases h
section
variable {X : Cx} {CA : Nat → Option Addr} {cl : Nat → List Val → R (Val × Bool)} {H0 : Bs} {src a b c : Expr} {e ea eb ec : E} {pos : Pos}
/-- from the value alone -/
theorem V3.of (hb : ∀ i, e ≠ .bor i) (ht : okTst src = true) (h : ∀ W, Takes X W → PE X src (tE X.K CA cl H0 W e)) : V3 CA cl H0 X src e where
  val := h
  opd := fun W tk => (h W tk).imp fun σ H Q q => tO_of hb q
  tst := fun W tk => PT.imp (pt_truth ((h W tk).imp fun σ H Q q => tO_of hb q) (okTst.he ht X.env)) fun σ H Q q => by
    obtain ⟨env, P, er, q⟩ := q
    refine ⟨env, P, er, (ResG.bind q).imp fun v q H' P' x st r => ?_⟩
    cases e1 : truth v with
    | ok b => rw [e1] at q; exact ⟨b, tru_any r e1, q H' P' st⟩
    | exc c =>
      cases v <;> cases e1
    | bad => rw [e1] at q; exact q.elim
/-- names -/
theorem v3_nm {i : Nat} {x : Str} (hN : X.N[i]? = some x) (hv : Vis X.env.scope x) (hd : (x == ("__debug__" : Str)) = false) (hcd : (x == ("__classdict__" : Str)) = false) : V3 CA cl H0 X (.Name x pos) (.nm i) :=
  .of (by intro i z; cases z) rfl fun W _ => (pe_var hN hv hd hcd).imp fun σ H Q q => by
    obtain ⟨env, P, er, q⟩ := q
    have q := q.map
    unfold lookF at q
    split at q
    · rename_i v he
      obtain ⟨x, h1, h2⟩ := er.shr i v he
      exact ⟨x, h1, Out.here q er.trk h2⟩
    · exact q.elim
theorem v3_bor {i : Nat} {x : Str} (hN : X.N[i]? = some x) (hv : Vis X.env.scope x) (hd : (x == ("__debug__" : Str)) = false) (hcd : (x == ("__classdict__" : Str)) = false) : V3 CA cl H0 X (.Name x pos) (.bor i) := by
  have ho : ∀ W, PE X (.Name x pos) (tO X.K CA cl H0 W (.bor i)) := fun W => (pe_var hN hv hd hcd).imp fun σ H Q q => by
    obtain ⟨env, P, er, q⟩ := q
    have q : ResG CA H σ W _ (look env i) := q
    unfold look at q
    split at q
    · rename_i v o he
      cases o with
      | false =>
        obtain ⟨x, h1, h2⟩ := er.shr i v he
        exact ⟨x, h1, q H P x (.refl er.trk) (.inl h2)⟩
      | true =>
        obtain ⟨a, xs, vs, h1, h2, h3, h4, h5, h6⟩ := er.own i v he
        exact ⟨_, h2, q H P _ (.refl er.trk) (.inr ⟨a, xs, vs, ⟨i, rfl, ⟨v, he⟩, h2⟩, h1, rfl, h3, h6⟩)⟩
    · exact q.elim
  refine ⟨fun W _ => ⟨fun pins s σ H Q I q => ?_⟩, fun W _ => ho W, fun W _ => PT.imp (pt_truth (ho W) (okTst.he rfl X.env)) fun σ H Q q => ?_⟩
  · obtain ⟨env, P, er, q⟩ := q
    exact q.elim
  · obtain ⟨env, P, er, q⟩ := q
    refine ⟨env, P, er, (ResG.bind q).imp fun v q H' P' x st r => ?_⟩
    cases e1 : truth v with
    | ok b => rw [e1] at q; exact ⟨b, tru_any r e1, q H' P' st⟩
    | exc c =>
      cases v <;> cases e1
    | bad => rw [e1] at q; exact q.elim
/-- constants -/
theorem v3_cst {v : Val} {x : V} (ht : okTst src = true) (h : PE X src (tC x)) (r : ∀ H P, RV X.K CA H P v x) : V3 CA cl H0 X src (.cst v) :=
  .of (by intro i z; cases z) ht fun W _ => h.imp fun σ H Q q => by
    obtain ⟨env, P, er, q⟩ := q
    exact Out.here q er.trk (r H P)
/-- two operands, and what comes then -/
theorem two_k {α : Type} {post : α → Prop} {g : Val → Val → R α} {W : WX} {σ : L2.St} {H : Hp} {Q : VK} {r : R2} {env : Env} {P : Addr → Prop} (er : ER X.K CA H0 H P env σ)
    (q : ResG CA H σ W post ((opd env ea (evE cl ea env)).bind fun x => (opd env eb (evE cl eb env)).bind fun y => g x y))
    (k : ∀ va vb H2 P2 M N x y, Step P H P2 H2 → RVo X.K CA H2 P2 M va x → RVo X.K CA H2 P2 N vb y → ResG CA H2 σ W post (g va vb) → r x y H2 Q) :
    tOp r (tO X.K CA cl H0 W ea) (tO X.K CA cl H0 W eb) σ H Q :=
  ⟨env, P, er, q.bind.imp fun va q H1 P1 x st1 r1 => ⟨env, P1, er.grow st1, (q.bind.at st1.s).imp fun vb q H2 P2 y st2 r2 => k va vb H2 P2 _ _ x y (st1.trans st2) (r1.mono st2.s st2.g.1) r2 ((q.at st1.s).at st2.s)⟩⟩
theorem two_ops {f : Val → Val → R Val} {fl : Val → Bool} {W : WX} {σ : L2.St} {H : Hp} {Q : VK} {env : Env} {P : Addr → Prop} (er : ER X.K CA H0 H P env σ) (hne : ∀ x y c, f x y ≠ .exc c)
    (q : ResG CA H σ W (fun p => Out X.K CA H P p Q) ((opd env ea (evE cl ea env)).bind fun x => (opd env eb (evE cl eb env)).bind fun y => (f x y).map fun v => (v, fl v))) :
    tOp (rOp X.K CA fl f) (tO X.K CA cl H0 W ea) (tO X.K CA cl H0 W eb) σ H Q :=
  two_k er q fun va vb H2 P2 M N x y st ra rb q => ⟨va, vb, P2, _, _, st.t, ra, rb, by
    have q := q.map
    cases e1 : f va vb with
    | ok v => rw [e1] at q; exact Out.at q st
    | exc c => exact absurd e1 (hne _ _ _)
    | bad => rw [e1] at q; exact q.elim⟩
theorem evBin_ne (o : BOp) (x y : Val) (c : Nat) : evBin o x y ≠ .exc c := by
  intro h
  cases o <;> cases x <;> cases y <;> simp only [evBin] at h <;> first | cases h | (split at h <;> cases h)
theorem evCmp_ne (o : COp) (x y : Val) (c : Nat) : evCmp o x y ≠ .exc c := by
  intro h
  unfold evCmp at h
  split at h <;> first | cases h | (split at h <;> cases h)
theorem evCmp_bl (o : COp) (x y : Val) {v : Val} (h : evCmp o x y = .ok v) : ∃ k, v = .bl k := by
  unfold evCmp at h
  split at h <;> first | (cases h; exact ⟨_, rfl⟩) | (split at h <;> first | (cases h; exact ⟨_, rfl⟩) | cases h) | cases h
theorem evIn_ne (n : Bool) (x y : Val) (c : Nat) : evIn n x y ≠ .exc c := by
  intro h
  unfold evIn at h
  split at h <;> first | cases h | (split at h <;> first | cases h | (split at h <;> cases h))
theorem evIn_bl (n : Bool) (x y : Val) {v : Val} (h : evIn n x y = .ok v) : ∃ k, v = .bl k := by
  unfold evIn at h
  split at h <;> first | (cases h; exact ⟨_, rfl⟩) | (split at h <;> first | (cases h; exact ⟨_, rfl⟩) | cases h | (split at h <;> first | (cases h; exact ⟨_, rfl⟩) | cases h)) | cases h
theorem ofO_ne {α : Type} (o : Option α) (c : Nat) : ofO o ≠ .exc c := by
  intro h
  cases o <;> cases h
theorem evIx_ne (x y : Val) (c : Nat) : evIx x y ≠ .exc c := by
  intro h
  unfold evIx at h
  split at h <;> first | cases h | exact ofO_ne _ _ h
theorem v3_bin (hp : PyR X) (o : BOp) (ha : V3 CA cl H0 X a ea) (hb : V3 CA cl H0 X b eb) : V3 CA cl H0 X (.BinOp a (opOf o) b pos) (.bin o ea eb) :=
  .of (by intro i z; cases z) rfl fun W tk => (pe_op (op_bin hp o) (ha.opd W tk) (hb.opd W tk)).imp fun σ H Q q => by
    obtain ⟨env, P, er, q⟩ := q
    exact two_ops er (evBin_ne o) q
theorem v3_ix (hs : okSrc b = true) (ha : V3 CA cl H0 X a ea) (hb : V3 CA cl H0 X b eb) : V3 CA cl H0 X (.Subscript a b pos) (.ix ea eb) :=
  .of (by intro i z; cases z) rfl fun W tk => (pe_ix ix_any (ha.opd W tk) (hb.opd W tk) (okSrc.pi hs)).imp fun σ H Q q => by
    obtain ⟨env, P, er, q⟩ := q
    exact two_ops (fl := fun _ => false) er evIx_ne q
/-- comparisons -/
theorem cmp_of {op : CmpOp} {f : Val → Val → R Val} (hx : ∀ env, evE cl e env = (opd env ea (evE cl ea env)).bind fun x => (opd env eb (evE cl eb env)).bind fun y => (f x y).map (·, false)) (hne : ∀ x y c, f x y ≠ .exc c)
    (hbl : ∀ x y v, f x y = .ok v → ∃ k, v = .bl k) (hb' : ∀ i, e ≠ .bor i)
    (ho : OpR X (compareOp op) (rOp X.K CA (fun _ => false) f)) (hm : behindInMarks op b = false) (ha : V3 CA cl H0 X a ea) (hb : V3 CA cl H0 X b eb) : V3 CA cl H0 X (.Compare a [op] [b] pos) e := by
  have val : ∀ W, Takes X W → PE X (.Compare a [op] [b] pos) (tE X.K CA cl H0 W e) := fun W tk => (pe_cmpR ho (ha.opd W tk) (hb.opd W tk) hm).imp fun σ H Q q => by
    obtain ⟨env, P, er, q⟩ := q
    rw [hx] at q
    exact two_ops (fl := fun _ => false) er hne q
  refine ⟨val, fun W tk => (val W tk).imp fun σ H Q q => tO_of hb' q, fun W tk => PT.imp (pt_cmpR ho (ha.opd W tk) (hb.opd W tk) hm) fun σ H Q q => ?_⟩
  obtain ⟨env, P, er, q⟩ := q
  unfold evT at q
  rw [tE_nb hb', hx] at q
  simp only [R.map_bind, R.bind_assoc, R.map_map, R.bind_map] at q
  refine two_k er q fun va vb H2 P2 M N x y st ra rb q => ⟨va, vb, P2, _, _, st.t, ra, rb, ?_⟩
  have q := q.bind
  cases e1 : f va vb with
  | ok v =>
    rw [e1] at q
    obtain ⟨k, rfl⟩ := hbl _ _ _ e1
    intro H' P' z st2 r2
    rcases r2 with ⟨_, r2⟩ | ⟨r2, _⟩
    · cases r2
      exact ⟨k, rfl, q H' P' (st.trans st2)⟩
    · cases r2
  | exc c => exact absurd e1 (hne _ _ _)
  | bad => rw [e1] at q; exact q.elim
theorem v3_cmp (hu : X.A.units + 64 < cLine) (o : COp) (ha : V3 CA cl H0 X a ea) (hb : V3 CA cl H0 X b eb) : V3 CA cl H0 X (.Compare a [cpOf o] [b] pos) (.cmp o ea eb) :=
  cmp_of (fun env => rfl) (evCmp_ne o) (fun x y v => evCmp_bl o x y) (by intro i z; cases z) (op_cmp hu o) (nobehind _ (by cases o <;> decide) (by cases o <;> decide)) ha hb
theorem v3_inn (hu : X.A.units + 64 < cLine) (n : Bool) (hs : okSrc b = true) (ha : V3 CA cl H0 X a ea) (hb : V3 CA cl H0 X b eb) : V3 CA cl H0 X (.Compare a [inOf n] [b] pos) (.inn n ea eb) :=
  cmp_of (fun env => rfl) (evIn_ne n) (fun x y v => evIn_bl n x y) (by intro i z; cases z) (op_inn hu n) (okSrc.bm hs _) ha hb

theorem isNon_rv {K : PySem.W.Frag} {H : Hp} {P L : Addr → Prop} {v : Val} {x : V} (r : RVo K CA H P L v x) : decide (x = .non) = isNon v := by
  rcases r with r | ⟨a, xs, vs, _, rfl, rfl, _⟩
  · cases r <;> rfl
  · rfl
def isOf : Bool → CmpOp
  | false => .Is
  | true => .IsNot
theorem v3_isn (n : Bool) {j : Nat} {pos' : Pos} (ha : V3 CA cl H0 X a ea) : V3 CA cl H0 X (.Compare a [isOf n] [.Constant .none j pos'] pos) (.isn n ea) := by
  have pc : ∀ W, Takes X W → PC X (isOf n) a (.Constant .none j pos') (fun σ H Q => tO X.K CA cl H0 W ea σ H fun x H1 => Q (.bl (if n then !decide (x = .non) else decide (x = .non))) H1) := fun W tk => by
    cases n
    · exact pc_isN (ha.opd W tk)
    · exact pc_notN (ha.opd W tk)
  have val : ∀ W, Takes X W → PE X (.Compare a [isOf n] [.Constant .none j pos'] pos) (tE X.K CA cl H0 W (.isn n ea)) := fun W tk => (pe_cmp (pc W tk) rfl).imp fun σ H Q q => by
    obtain ⟨env, P, er, q⟩ := q
    refine ⟨env, P, er, (ResG.bind q).imp fun v q H' P' x st r => ?_⟩
    dsimp only
    rw [isNon_rv r]
    exact (Out.at q st).bl st.t
  refine ⟨val, fun W tk => (val W tk).imp fun σ H Q q => tO_of (by intro i z; cases z) q, fun W tk => PT.imp (pt_cmp (pc W tk) rfl) fun σ H Q q => ?_⟩
  obtain ⟨env, P, er, q⟩ := q
  unfold evT at q
  rw [tE_nb (by intro i z; cases z)] at q
  simp only [evE, R.map_bind, R.bind_assoc, R.map_ok, R.bind_ok] at q
  refine ⟨env, P, er, (ResG.bind q).imp fun v q H' P' x st r => ?_⟩
  dsimp only
  rw [isNon_rv r]
  exact ⟨_, rfl, q H' P' st⟩
theorem v3_neg (ha : V3 CA cl H0 X a ea) : V3 CA cl H0 X (.UnaryOp .USub a pos) (.neg ea) :=
  .of (by intro i z; cases z) rfl fun W tk => (pe_un un_neg (ha.opd W tk)).imp fun σ H Q q => by
    obtain ⟨env, P, er, q⟩ := q
    refine ⟨env, P, er, (ResG.bind q).imp fun v q H' P' x st r => ?_⟩
    cases v <;> first | exact q.elim | skip
    case int i =>
      cases r.int
      exact ⟨i, rfl, (Out.at q st).int st.t⟩
/-- a < b < c -/
theorem v3_chn (hu : X.A.units + 64 < cLine) (o o' : COp) (hm : lastMarks [cpOf o, cpOf o'] [b, c] = false) (ha : V3 CA cl H0 X a ea) (hb : V3 CA cl H0 X b eb) (hc : V3 CA cl H0 X c ec) : V3 CA cl H0 X (.Compare a [cpOf o, cpOf o'] [b, c] pos) (.chn o o' ea eb ec) := by
  have go : ∀ {W : WX} {σ : L2.St} {H : Hp} {Q : VK} {env : Env} {P : Addr → Prop}, ER X.K CA H0 H P env σ →
      ResG CA H σ W (fun v => ∀ k, v = Val.bl k → ∀ H' P', Step P H P' H' → Q (.bl k) H') ((opd env ea (evE cl ea env)).bind fun x => (opd env eb (evE cl eb env)).bind fun y => (evCmp o x y).bind fun z => (toB z).bind fun k =>
        if k then (opd env ec (evE cl ec env)).bind fun w => evCmp o' y w else .ok (.bl false)) →
      tChain (rOp X.K CA (fun _ => false) (evCmp o)) (rOp X.K CA (fun _ => false) (evCmp o')) (tO X.K CA cl H0 W ea) (tO X.K CA cl H0 W eb) (tO X.K CA cl H0 W ec) σ H Q := by
    intro W σ H Q env P er q
    refine ⟨env, P, er, q.bind.imp fun va q H1 P1 x st1 r1 => ⟨env, P1, er.grow st1, (q.bind.at st1.s).imp fun vb q H2 P2 y st2 r2 => ⟨va, vb, P2, _, _, st2.t, r1.mono st2.s st2.g.1, r2, ?_⟩⟩⟩
    cases e1 : evCmp o va vb with
    | exc c => exact absurd e1 (evCmp_ne _ _ _ _)
    | bad => rw [e1] at q; exact q.elim
    | ok v =>
      rw [e1] at q
      obtain ⟨k, rfl⟩ := evCmp_bl _ _ _ e1
      have q : ResG CA H σ W _ (if k then (opd env ec (evE cl ec env)).bind fun w => evCmp o' vb w else .ok (.bl false)) := q
      intro H3 P3 z st3 r3
      have ez : z = .bl k := by
        rcases r3 with ⟨_, r3⟩ | ⟨r3, _⟩
        · cases r3; rfl
        · cases r3
      refine ⟨k, ez, ?_⟩
      cases k with
      | false =>
        exact q _ rfl H3 P3 ((st1.trans st2).trans st3)
      | true =>
        refine ⟨env, P3, (er.grow (st1.trans st2)).grow st3, ((ResG.bind q).at ((st1.trans st2).trans st3).s).imp fun vc q H4 P4 w st4 r4 => ⟨vb, vc, P4, _, _, st4.t, (r2.mono (st3.trans st4).s (st3.trans st4).g.1), r4, ?_⟩⟩
        cases e2 : evCmp o' vb vc with
        | exc c => exact absurd e2 (evCmp_ne _ _ _ _)
        | bad => rw [e2] at q; exact q.elim
        | ok v =>
          rw [e2] at q
          obtain ⟨k, rfl⟩ := evCmp_bl _ _ _ e2
          intro H5 P5 z st5 r5
          have ez : z = .bl k := by
            rcases r5 with ⟨_, r5⟩ | ⟨r5, _⟩
            · cases r5; rfl
            · cases r5
          rw [ez]
          exact q _ rfl H5 P5 ((((st1.trans st2).trans st3).trans st4).trans st5)
  have e1 : ∀ env, evE cl (.chn o o' ea eb ec) env = ((opd env ea (evE cl ea env)).bind fun x => (opd env eb (evE cl eb env)).bind fun y => (evCmp o x y).bind fun z => (toB z).bind fun k =>
        if k then (opd env ec (evE cl ec env)).bind fun w => evCmp o' y w else .ok (.bl false)).map (·, false) := fun env => by
    simp only [evE, R.map_bind]
    congr 1; funext x; congr 1; funext y; congr 1; funext z; congr 1; funext k
    cases k <;> simp [R.map_bind]
  have val : ∀ W, Takes X W → PE X (.Compare a [cpOf o, cpOf o'] [b, c] pos) (tE X.K CA cl H0 W (.chn o o' ea eb ec)) := fun W tk => (pe_chain (op_cmp hu o) (op_cmp hu o') (ha.opd W tk) (hb.opd W tk) (hc.opd W tk) hm).imp fun σ H Q q => by
    obtain ⟨env, P, er, q⟩ := q
    rw [e1] at q
    refine go er (q.map.imp fun v q k ev H' P' st => ?_)
    subst ev
    exact Out.here (Out.at q st) st.t (.bl k)
  refine ⟨val, fun W tk => (val W tk).imp fun σ H Q q => tO_of (by intro i z; cases z) q, fun W tk => PT.imp (pt_chain (op_cmp (CA := CA) hu o) (op_cmp (CA := CA) hu o') (ha.opd W tk) (hb.opd W tk) (hc.opd W tk) hm) fun σ H Q q => ?_⟩
  obtain ⟨env, P, er, q⟩ := q
  unfold evT at q
  rw [tE_nb (by intro i z; cases z), e1] at q
  rw [R.map_map, R.bind_map] at q
  refine go er (q.bind.imp fun v q k ev H' P' st => ?_)
  subst ev
  exact ⟨k, rfl, q H' P' st⟩
/-- a and b and .., a or b or .. -/
structure VB (CA : Nat → Option Addr) (cl : Nat → List Val → R (Val × Bool)) (H0 : Bs) (X : Cx) (op : BoolOp) (srcs : List Expr) (pos : Pos) (e : E) : Prop where
  val : ∀ W, Takes X W → PE X (.BoolOp op srcs pos) (tO X.K CA cl H0 W e)
  tst : ∀ W, Takes X W → PW X (.BoolOp op srcs pos) (tT X.K CA cl H0 W e)
theorem VB.one (op : BoolOp) (ha : V3 CA cl H0 X a ea) : VB CA cl H0 X op [a] pos ea := ⟨fun W tk => pe_one (ha.opd W tk), fun W tk => by
  cases op
  · exact pw_and1 (ha.tst W tk)
  · exact pw_or1 (ha.tst W tk)⟩
theorem toB_ok {v : Val} {k : Bool} (h : toB v = .ok k) : v = .bl k := by
  cases v <;> cases h; rfl
theorem toB_ne (v : Val) (c : Nat) : toB v ≠ .exc c := by
  intro h; cases v <;> cases h
theorem toB_res {H : Hp} {σ : L2.St} {W : WX} {α : Type} {post : α → Prop} {v : Val} {f : Bool → R α} (q : ResG CA H σ W post ((toB v).bind f)) : ∃ k, v = .bl k ∧ ResG CA H σ W post (f k) := by
  cases e : toB v with
  | ok k => rw [e] at q; exact ⟨k, toB_ok e, q⟩
  | exc c => exact absurd e (toB_ne _ _)
  | bad => rw [e] at q; exact q.elim
theorem VB.and {rest : List Expr} (ha : V3 CA cl H0 X a ea) (hb : VB CA cl H0 X .And (b :: rest) pos eb) : VB CA cl H0 X .And (a :: b :: rest) pos (.and ea eb) := by
  refine ⟨fun W tk => (pe_and (ha.opd W tk) (hb.val W tk)).imp fun σ H Q q => ?_, fun W tk => (pw_and (ha.tst W tk) (hb.tst W tk)).imp fun σ H Q q => ?_⟩
  · obtain ⟨env, P, er, q⟩ := q
    rw [tE_nb (by intro i z; cases z)] at q
    simp only [evE, R.map_bind] at q
    refine ⟨env, P, er, q.bind.imp fun va q H1 P1 x st1 r1 => ?_⟩
    obtain ⟨k, rfl, q⟩ := toB_res q
    refine ⟨k, r1.bl, ?_⟩
    cases k with
    | false => exact q H1 P1 _ st1 (.inl (.bl false))
    | true =>
      have q : ResG CA H σ W _ ((((opd env eb (evE cl eb env)).bind fun y => (toB y).bind fun k' => R.ok (Val.bl k', false))).map (·.1)) := q
      rw [R.map_bind] at q
      refine ⟨env, P1, er.grow st1, (q.bind.at st1.s).imp fun vb q H2 P2 y st2 r2 => ?_⟩
      rw [R.map_bind] at q
      obtain ⟨k, rfl, q⟩ := toB_res q
      rw [r2.bl]
      exact q H2 P2 _ (st1.trans st2) (.inl (.bl k))
  · obtain ⟨env, P, er, q⟩ := q
    unfold evT at q
    rw [tE_nb (by intro i z; cases z)] at q
    simp only [evE, R.map_bind, R.bind_assoc] at q
    show tT X.K CA cl H0 W ea σ H _
    refine ⟨env, P, er, ?_⟩
    unfold evT
    cases e1 : opd env ea (evE cl ea env) with
    | exc c => rw [e1] at q; exact q
    | bad => rw [e1] at q; exact q
    | ok va =>
      rw [e1] at q
      obtain ⟨k, rfl, q⟩ := toB_res (v := va) q
      intro H1 P1 st1
      cases k with
      | false =>
        show Q false H1
        exact q H1 P1 st1
      | true =>
        show tT X.K CA cl H0 W eb σ H1 Q
        refine ⟨env, P1, er.grow st1, ?_⟩
        unfold evT
        have q : ResG CA H σ W _ (((((opd env eb (evE cl eb env)).bind fun y => (toB y).bind fun k' => R.ok (Val.bl k', false))).map (·.1)).bind truth) := q
        rw [R.map_bind, R.bind_assoc] at q
        cases e2 : opd env eb (evE cl eb env) with
        | exc c => rw [e2] at q; exact fun H' C s e => q H' C (st1.s.trans s) e
        | bad => rw [e2] at q; exact q
        | ok vb =>
          rw [e2] at q
          have q : ResG CA H σ W _ ((((toB vb).bind fun k' => R.ok (Val.bl k', false)).map (·.1)).bind truth) := q
          rw [R.map_bind, R.bind_assoc] at q
          obtain ⟨k, rfl, q⟩ := toB_res (v := vb) q
          exact fun H' P' st => q H' P' (st1.trans st)
theorem VB.or {rest : List Expr} (ha : V3 CA cl H0 X a ea) (hb : VB CA cl H0 X .Or (b :: rest) pos eb) : VB CA cl H0 X .Or (a :: b :: rest) pos (.or ea eb) := by
  refine ⟨fun W tk => (pe_or (ha.opd W tk) (hb.val W tk)).imp fun σ H Q q => ?_, fun W tk => (pw_or (ha.tst W tk) (hb.tst W tk)).imp fun σ H Q q => ?_⟩
  · obtain ⟨env, P, er, q⟩ := q
    rw [tE_nb (by intro i z; cases z)] at q
    simp only [evE, R.map_bind] at q
    refine ⟨env, P, er, q.bind.imp fun va q H1 P1 x st1 r1 => ?_⟩
    obtain ⟨k, rfl, q⟩ := toB_res q
    refine ⟨k, r1.bl, ?_⟩
    cases k with
    | true => exact q H1 P1 _ st1 (.inl (.bl true))
    | false =>
      have q : ResG CA H σ W _ ((((opd env eb (evE cl eb env)).bind fun y => (toB y).bind fun k' => R.ok (Val.bl k', false))).map (·.1)) := q
      rw [R.map_bind] at q
      refine ⟨env, P1, er.grow st1, (q.bind.at st1.s).imp fun vb q H2 P2 y st2 r2 => ?_⟩
      rw [R.map_bind] at q
      obtain ⟨k, rfl, q⟩ := toB_res q
      rw [r2.bl]
      exact q H2 P2 _ (st1.trans st2) (.inl (.bl k))
  · obtain ⟨env, P, er, q⟩ := q
    unfold evT at q
    rw [tE_nb (by intro i z; cases z)] at q
    simp only [evE, R.map_bind, R.bind_assoc] at q
    show tT X.K CA cl H0 W ea σ H _
    refine ⟨env, P, er, ?_⟩
    unfold evT
    cases e1 : opd env ea (evE cl ea env) with
    | exc c => rw [e1] at q; exact q
    | bad => rw [e1] at q; exact q
    | ok va =>
      rw [e1] at q
      obtain ⟨k, rfl, q⟩ := toB_res (v := va) q
      intro H1 P1 st1
      cases k with
      | true =>
        show Q true H1
        exact q H1 P1 st1
      | false =>
        show tT X.K CA cl H0 W eb σ H1 Q
        refine ⟨env, P1, er.grow st1, ?_⟩
        unfold evT
        have q : ResG CA H σ W _ (((((opd env eb (evE cl eb env)).bind fun y => (toB y).bind fun k' => R.ok (Val.bl k', false))).map (·.1)).bind truth) := q
        rw [R.map_bind, R.bind_assoc] at q
        cases e2 : opd env eb (evE cl eb env) with
        | exc c => rw [e2] at q; exact fun H' C s e => q H' C (st1.s.trans s) e
        | bad => rw [e2] at q; exact q
        | ok vb =>
          rw [e2] at q
          have q : ResG CA H σ W _ ((((toB vb).bind fun k' => R.ok (Val.bl k', false)).map (·.1)).bind truth) := q
          rw [R.map_bind, R.bind_assoc] at q
          obtain ⟨k, rfl, q⟩ := toB_res (v := vb) q
          exact fun H' P' st => q H' P' (st1.trans st)
/-- the three of an and, an or; the last operand is asked for its value, so it is no lent list -/
theorem VB.v3 {op : BoolOp} {srcs : List Expr} (hb : ∀ i, e ≠ .bor i) (h : VB CA cl H0 X op srcs pos e) (hn : ∀ env p, evE cl e env = .ok p → p.2 = false) : V3 CA cl H0 X (.BoolOp op srcs pos) e where
  val := fun W tk => (h.val W tk).imp fun σ H Q q => by
    obtain ⟨env, P, er, q⟩ := q
    refine ⟨env, P, er, ?_⟩
    rw [tE_nb hb]
    cases e1 : evE cl e env with
    | exc c => rw [e1] at q; exact q
    | bad => rw [e1] at q; exact q
    | ok p =>
      rw [e1] at q
      have hp := hn env p e1
      intro H' P' x st r
      rcases r with r | ⟨a, xs, vs, ⟨i, ei, _⟩, _⟩
      · exact q H' P' x st (.inl ⟨hp, r⟩)
      · exact absurd ei (hb i)
  opd := h.val
  tst := fun W tk => (h.tst W tk).pt
theorem v3_not (ha : V3 CA cl H0 X a ea) : V3 CA cl H0 X (.UnaryOp .Not a pos) (.not ea) := by
  have val : ∀ W, Takes X W → PE X (.UnaryOp .Not a pos) (tE X.K CA cl H0 W (.not ea)) := fun W tk => (pe_not (ha.opd W tk)).imp fun σ H Q q => by
    obtain ⟨env, P, er, q⟩ := q
    refine ⟨env, P, er, (ResG.bind q).imp fun va q H1 P1 x st1 r1 => ?_⟩
    obtain ⟨k, rfl, q⟩ := toB_res q
    exact ⟨k, r1.bl, (Out.at q st1).bl st1.t⟩
  refine ⟨val, fun W tk => (val W tk).imp fun σ H Q q => tO_of (by intro i z; cases z) q, fun W tk => PT.imp (pt_not (ha.tst W tk)) fun σ H Q q => ?_⟩
  obtain ⟨env, P, er, q⟩ := q
  unfold evT at q
  rw [tE_nb (by intro i z; cases z)] at q
  simp only [evE, R.map_bind, R.bind_assoc] at q
  refine ⟨env, P, er, ?_⟩
  unfold evT
  cases e1 : opd env ea (evE cl ea env) with
  | exc c => rw [e1] at q; exact q
  | bad => rw [e1] at q; exact q
  | ok va =>
    rw [e1] at q
    obtain ⟨k, rfl, q⟩ := toB_res (v := va) q
    exact fun H' P' st => q H' P' st
end
end G

set_option linter.all false
set_option maxHeartbeats 2000000
set_option maxRecDepth 100000
/-! G5: slices, displays, calls. -/
namespace G
open PySem PySem.Spec PyProof.Rows L2 HT
theorem pt_ifx {X : Cx} {c a b : Expr} {pos : Pos} {tc ta tb : TT} (hc : PT X c tc) (ha : PT X a ta) (hb : PT X b tb) : PT X (.IfExp c a b pos) (fun σ H Q => tc σ H fun k H1 => if k = true then ta σ H1 Q else tb σ H1 Q) := ⟨fun pins s σ H Q I h => by
  show wpAny _ _ (do if ← isTrue c X.env (eval c X.env) then isTrue a X.env (eval a X.env) else isTrue b X.env (eval b X.env)) _ _ _
  refine wpAny_bind (thn (hc.run pins s σ H _ I h) fun k s1 ⟨H1, I1, q⟩ => ?_)
  cases k with
  | true => exact ha.run pins s1 σ H1 Q I1 q
  | false => exact hb.run pins s1 σ H1 Q I1 q⟩
section
variable {X : Cx} {CA : Nat → Option Addr} {cl : Nat → List Val → R (Val × Bool)} {H0 : Bs} {src a b c : Expr} {e ea eb ec : E} {pos : Pos}
theorem v3_ifx (na : ∀ i, ea ≠ .bor i) (nb : ∀ i, eb ≠ .bor i) (hc : V3 CA cl H0 X c ec) (ha : V3 CA cl H0 X a ea) (hb : V3 CA cl H0 X b eb) : V3 CA cl H0 X (.IfExp c a b pos) (.ifx ec ea eb) := by
  have go : ∀ {W : WX} {σ : L2.St} {H : Hp} {Q : VK} {env : Env} {P : Addr → Prop} (e : E), ER X.K CA H0 H P env σ → (∀ i, e ≠ .bor i) →
      ResG CA H σ W (fun v => OutO X.K CA H P (fun _ => False) v Q) ((evE cl e env).map (·.1)) → tE X.K CA cl H0 W e σ H Q := fun {W σ H Q env P} e er hn q => by
    refine ⟨env, P, er, q.map.imp fun p q H' P' x st r => ?_⟩
    obtain ⟨P3, st3, g3, r3⟩ := r.rv st
    exact q H' P3 x st3 (.inl r3)
  have opd : ∀ W, Takes X W → PE X (.IfExp c a b pos) (tO X.K CA cl H0 W (.ifx ec ea eb)) := fun W tk => (pe_ifExp (hc.tst W tk) (ha.val W tk) (hb.val W tk)).imp fun σ H Q q => by
    obtain ⟨env, P, er, q⟩ := q
    rw [tE_nb (by intro i z; cases z)] at q
    simp only [evE, R.map_bind] at q
    show tT X.K CA cl H0 W ec σ H _
    refine ⟨env, P, er, ?_⟩
    unfold evT
    rw [← R.bind_assoc] at q
    refine q.bind.imp fun k q H1 P1 st1 => ?_
    cases k with
    | true =>
      have q : ResG CA H σ W _ (((evE cl ea env).map fun p => (p.1, false)).map (·.1)) := q
      rw [R.map_map] at q
      refine go ea (er.grow st1) na ((q.at st1.s).imp fun v q H' P' x st r => ?_)
      exact q H' P' x (st1.trans st) (r.wid fun _ z => z.elim)
    | false =>
      have q : ResG CA H σ W _ (((evE cl eb env).map fun p => (p.1, false)).map (·.1)) := q
      rw [R.map_map] at q
      refine go eb (er.grow st1) nb ((q.at st1.s).imp fun v q H' P' x st r => ?_)
      exact q H' P' x (st1.trans st) (r.wid fun _ z => z.elim)
  refine ⟨fun W tk => (opd W tk).imp fun σ H Q q => ?_, opd, fun W tk => (pt_ifx (hc.tst W tk) (ha.tst W tk) (hb.tst W tk)).imp fun σ H Q q => ?_⟩
  · obtain ⟨env, P, er, q⟩ := q
    refine ⟨env, P, er, ?_⟩
    rw [tE_nb (by intro i z; cases z)]
    cases e1 : evE cl (.ifx ec ea eb) env with
    | exc c => rw [e1] at q; exact q
    | bad => rw [e1] at q; exact q
    | ok p =>
      rw [e1] at q
      have hp : p.2 = false := by
        simp only [evE] at e1
        obtain ⟨x, _, e1⟩ := R.bind_eq_ok e1
        obtain ⟨k, _, e1⟩ := R.bind_eq_ok e1
        cases k
        · have e1 : (evE cl eb env).map (fun p => (p.1, false)) = .ok p := e1
          cases e2 : evE cl eb env <;> rw [e2] at e1 <;> cases e1; rfl
        · have e1 : (evE cl ea env).map (fun p => (p.1, false)) = .ok p := e1
          cases e2 : evE cl ea env <;> rw [e2] at e1 <;> cases e1; rfl
      intro H' P' x st r
      rcases r with r | ⟨a, xs, vs, ⟨i, ei, _⟩, _⟩
      · exact q H' P' x st (.inl ⟨hp, r⟩)
      · cases ei
  · obtain ⟨env, P, er, q⟩ := q
    unfold evT at q
    rw [tE_nb (by intro i z; cases z)] at q
    simp only [evE, R.map_bind, R.bind_assoc] at q
    show tT X.K CA cl H0 W ec σ H _
    refine ⟨env, P, er, ?_⟩
    unfold evT
    rw [← R.bind_assoc] at q
    refine q.bind.imp fun k q H1 P1 st1 => ?_
    cases k with
    | true =>
      have q : ResG CA H σ W _ ((((evE cl ea env).map fun p => (p.1, false)).map (·.1)).bind truth) := q
      rw [R.map_map] at q
      refine ⟨env, P1, er.grow st1, ?_⟩
      unfold evT
      rw [tE_nb na]
      exact (q.at st1.s).imp fun v q H' P' st => q H' P' (st1.trans st)
    | false =>
      have q : ResG CA H σ W _ ((((evE cl eb env).map fun p => (p.1, false)).map (·.1)).bind truth) := q
      rw [R.map_map] at q
      refine ⟨env, P1, er.grow st1, ?_⟩
      unfold evT
      rw [tE_nb nb]
      exact (q.at st1.s).imp fun v q H' P' st => q H' P' (st1.trans st)
/-- a slice's part -/
def tP (K : PySem.W.Frag) (CA : Nat → Option Addr) (cl : Nat → List Val → R (Val × Bool)) (H0 : Bs) (W : WX) (o : Option E) : TO := fun σ H Q => ∃ env P, ER K CA H0 H P env σ ∧ ResG CA H σ W (fun i => ∀ H' P', Step P H P' H' → Q i H') (evO cl o env)
theorem po_no {W : WX} : PO X none (tP X.K CA cl H0 W none) := ⟨fun pins s σ H Q I q => po_none.run pins s σ H Q I (by
  obtain ⟨env, P, er, q⟩ := q
  exact q H P (.refl er.trk))⟩
theorem po_so {W : WX} (tk : Takes X W) (ha : V3 CA cl H0 X a ea) : PO X (some a) (tP X.K CA cl H0 W (some ea)) := ⟨fun pins s σ H Q I q => (po_some (ha.opd W tk)).run pins s σ H Q I (by
  obtain ⟨env, P, er, q⟩ := q
  refine ⟨env, P, er, (ResG.bind q).imp fun v q H' P' x st r => ?_⟩
  cases v <;> first | exact q.elim | skip
  case int i =>
    cases r.int
    exact ⟨i, rfl, q H' P' st⟩)⟩
theorem evSlc_ne (l h : Option Int) (x : Val) (c : Nat) : evSlc l h x ≠ .exc c := by
  intro e
  unfold evSlc at e
  split at e <;> cases e
theorem v3_slc {lo hi : Option Expr} {el eh : Option E} {p2 : Pos} (ha : V3 CA cl H0 X a ea) (hl : ∀ W, Takes X W → PO X lo (tP X.K CA cl H0 W el)) (hh : ∀ W, Takes X W → PO X hi (tP X.K CA cl H0 W eh)) : V3 CA cl H0 X (.Subscript a (.Slice lo hi none p2) pos) (.slc ea el eh) :=
  .of (by intro i z; cases z) rfl fun W tk => (pe_slice sl_any (ha.opd W tk) (hl W tk) (hh W tk)).imp fun σ H Q q => by
    obtain ⟨env, P, er, q⟩ := q
    refine ⟨env, P, er, (ResG.bind q).imp fun v q H1 P1 x st1 r => ⟨env, P1, er.grow st1, (q.bind.at st1.s).imp fun l q H2 P2 st2 => ⟨env, P2, (er.grow st1).grow st2, (q.bind.at (st1.trans st2).s).imp fun h q H3 P3 st3 => ⟨v, P3, _, st3.t, r.mono (st2.trans st3).s (st2.trans st3).g.1, ?_⟩⟩⟩⟩
    have q := q.map
    cases e1 : evSlc l h v with
    | ok w => rw [e1] at q; exact Out.at q ((st1.trans st2).trans st3)
    | exc c => exact absurd e1 (evSlc_ne _ _ _ _)
    | bad => rw [e1] at q; exact q.elim
theorem evRev_ne (x : Val) (c : Nat) : evRev x ≠ .exc c := by
  intro e
  unfold evRev at e
  split at e <;> cases e
theorem v3_rev {k : Nat} {p1 p2 p3 : Pos} (ha : V3 CA cl H0 X a ea) : V3 CA cl H0 X (.Subscript a (.Slice none none (some (.UnaryOp .USub (.Constant (.int 1) k p1) p2)) p3) pos) (.rev ea) :=
  .of (by intro i z; cases z) rfl fun W tk => (pe_revA (CA := CA) (ha.opd W tk)).imp fun σ H Q q => by
    obtain ⟨env, P, er, q⟩ := q
    refine ⟨env, P, er, (ResG.bind q).imp fun v q H1 P1 x st1 r => ⟨v, P1, _, st1.t, r, ?_⟩⟩
    have q := q.map
    cases e1 : evRev v with
    | ok w => rw [e1] at q; exact Out.at q st1
    | exc c => exact absurd e1 (evRev_ne _ _)
    | bad => rw [e1] at q; exact q.elim
/-! ### lists of expressions -/
abbrev Vs3 (CA : Nat → Option Addr) (cl : Nat → List Val → R (Val × Bool)) (H0 : Bs) (X : Cx) : List Expr → List E → Prop := Paired fun src e => okSrc src = true ∧ V3 CA cl H0 X src e
theorem pa_es {W : WX} (tk : Takes X W) : ∀ {srcs : List Expr} {es : List E}, Vs3 CA cl H0 X srcs es → PA X srcs (tEs X.K CA cl H0 W es)
  | _, _, .nil => PA.imp pa_nil fun σ H Q q => by
    obtain ⟨env, P, er, q⟩ := q
    exact q H P [] (.refl er.trk) .nil
  | _, _, .cons (l₁ := srcs) (l₂ := es) ⟨hs, h⟩ t => (pa_cons (h.val W tk) (pa_es tk t) (okSrc.st hs _ _)).imp fun σ H Q q => by
    obtain ⟨env, P, er, q⟩ := q
    refine ⟨env, P, er, (ResG.bind q).imp fun p q H1 P1 x st1 r => ?_⟩
    obtain ⟨P3, st3, g3, r3⟩ := r.rv st1
    refine ⟨env, P3, er.grow st3, (q.bind.at st1.s).imp fun vs q H2 P2 xs st2 r2 => ?_⟩
    exact q H2 P2 _ (st3.trans st2) (.cons (r3.mono st2.s st2.g.1) r2)
theorem pa_as {W : WX} (tk : Takes X W) : ∀ {srcs : List Expr} {es : List E}, Vs3 CA cl H0 X srcs es → PA X srcs (tAs X.K CA cl H0 W es)
  | _, _, .nil => PA.imp pa_nil fun σ H Q q => by
    obtain ⟨env, P, er, q⟩ := q
    exact q H P [] (.refl er.trk) .nil
  | _, _, .cons (l₁ := srcs) (l₂ := es) ⟨hs, h⟩ t => (pa_cons (h.opd W tk) (pa_as tk t) (okSrc.st hs _ _)).imp fun σ H Q q => by
    obtain ⟨env, P, er, q⟩ := q
    refine ⟨env, P, er, (ResG.bind q).imp fun v q H1 P1 x st1 r => ⟨env, P1, er.grow st1, (q.bind.at st1.s).imp fun vs q H2 P2 xs st2 r2 => ?_⟩⟩
    exact q H2 P2 _ (st1.trans st2) (.cons ((r.mono st2.s st2.g.1).wid fun a z => ⟨_, List.mem_cons_self, z⟩) (r2.mono (Same.refl _) (fun _ z => z) fun a ⟨e, he, z⟩ => ⟨e, List.mem_cons_of_mem _ he, z⟩))
theorem star_any {srcs : List Expr} {es : List E} (h : Vs3 CA cl H0 X srcs es) (env : PySem.Env) : (backTo pos (starEach srcs env)).any (·.1) = false := by
  induction h with
  | nil => rfl
  | cons h t ih =>
    rw [okSrc.st h.1]
    show (backTo pos (starEach _ env)).any (·.1) = false
    exact ih
theorem v3_tup {srcs : List Expr} {es : List E} {k : Nat} (hl : lenOk srcs.length = true) (h : Vs3 CA cl H0 X srcs es) : V3 CA cl H0 X (.Tuple srcs k pos) (.tup es) :=
  .of (by intro i z; cases z) rfl fun W tk => (pe_tup (pa_es tk h)).imp fun σ H Q q => by
    obtain ⟨env, P, er, q⟩ := q
    have q := ResG.bind q
    refine ⟨env, P, er, ?_⟩
    cases e1 : evEs cl es env with
    | exc c => rw [e1] at q; exact q
    | bad => rw [e1] at q; exact q
    | ok vs =>
      rw [e1] at q
      intro H1 P1 xs st1 r
      have el : xs.length = srcs.length := by
        rw [← r.length]
        have : ∀ (srcs : List Expr) (es : List E) (vs : List Val), Vs3 CA cl H0 X srcs es → evEs cl es env = .ok vs → vs.length = srcs.length := by
          intro srcs es vs h
          induction h generalizing vs with
          | nil => intro e; cases e; rfl
          | cons h t ih =>
            intro e
            obtain ⟨p, _, e⟩ := R.bind_eq_ok e
            obtain ⟨ws, e2, e⟩ := R.bind_eq_ok e
            cases e
            rw [List.length_cons, List.length_cons, ih ws e2]
        exact this srcs es vs h e1
      exact ⟨by rw [el]; exact LIM_le hl, fun p hp => (Out.at q st1).newT st1.t r p hp⟩
theorem v3_lst {srcs : List Expr} {es : List E} (hl : lenOk srcs.length = true) (h : Vs3 CA cl H0 X srcs es) : V3 CA cl H0 X (.List srcs pos) (.lst es) :=
  .of (by intro i z; cases z) rfl fun W tk => (pe_lst (pa_es tk h)).imp fun σ H Q q => by
    obtain ⟨env, P, er, q⟩ := q
    have q := ResG.bind q
    refine ⟨env, P, er, ?_⟩
    cases e1 : evEs cl es env with
    | exc c => rw [e1] at q; exact q
    | bad => rw [e1] at q; exact q
    | ok vs =>
      rw [e1] at q
      intro H1 P1 xs st1 r
      have el : xs.length = srcs.length := by
        rw [← r.length]
        have : ∀ (srcs : List Expr) (es : List E) (vs : List Val), Vs3 CA cl H0 X srcs es → evEs cl es env = .ok vs → vs.length = srcs.length := by
          intro srcs es vs h
          induction h generalizing vs with
          | nil => intro e; cases e; rfl
          | cons h t ih =>
            intro e
            obtain ⟨p, _, e⟩ := R.bind_eq_ok e
            obtain ⟨ws, e2, e⟩ := R.bind_eq_ok e
            cases e
            rw [List.length_cons, List.length_cons, ih ws e2]
        exact this srcs es vs h e1
      exact ⟨by rw [el]; exact LIM_le hl, fun p hp => (Out.at q st1).newL st1.t r p hp⟩
/-! ### calls -/
/-- a def's promise -/
def spF (K : PySem.W.Frag) (CA : Nat → Option Addr) (cl : Nat → List Val → R (Val × Bool)) (f np : Nat) : Sp := fun vs H Q E => ∃ (P : Addr → Prop) (args : List Val), Trk P H ∧ RVs K CA H P args vs ∧ vs.length = np ∧
  match cl f args with
  | .ok p => Out K CA H P p Q
  | .exc c => ∀ H' C, Same H H' → CA c = some C → E (.ref C) none H'
  | .bad => False
/-- the def named x is the table's f, of np parameters -/
structure FnF (X : Cx) (CA : Nat → Option Addr) (cl : Nat → List Val → R (Val × Bool)) (x : Str) (f np : Nat) : Prop where
  ex : ∃ (k : Nat) (ad : Addr) (fd : FuncData) (ps : List Str), ps.length = np ∧ X.mg x = some (.ref ad) ∧ PySem.W.keepIn X.K (.ref ad) = true ∧ Binds X.K fd ps [] ∧ FnOk X.prog X.w X.K X.mg X.base (L2.CX X.prog X.w) k ad fd ps (spF X.K CA cl f np) ∧ Room k X.A
theorem evAs_len {env : Env} : ∀ {es : List E} {vs : List Val}, evAs cl es env = .ok vs → vs.length = es.length
  | [], _, e => by cases e; rfl
  | e :: es, vs, h => by
    obtain ⟨p, _, h⟩ := R.bind_eq_ok h
    obtain ⟨ws, e2, h⟩ := R.bind_eq_ok h
    cases h
    rw [List.length_cons, List.length_cons, evAs_len e2]
theorem lent_no {env : Env} {σ : L2.St} : ∀ {es : List E} {a : Addr}, lent env es = false → ¬ LAs env σ es a := by
  intro es
  induction es with
  | nil => intro a _ ⟨e, he, _⟩; cases he
  | cons e es ih =>
    intro a h ⟨e', he, i, ei, ⟨v, hv⟩, hσ⟩
    have h2 : lent env es = false := by
      cases e <;> first | exact h | (simp only [lent, Bool.or_eq_false_iff] at h; exact h.2)
    rcases List.mem_cons.mp he with rfl | he
    · subst ei
      simp only [lent, hv, Bool.or_eq_false_iff] at h
      exact absurd h.1 (by decide)
    · exact ih h2 ⟨e', he, i, ei, ⟨v, hv⟩, hσ⟩
theorem RVos.rvs {K : PySem.W.Frag} {H : Hp} {P L : Addr → Prop} (hL : ∀ a, ¬ L a) : ∀ {vs : List Val} {xs : List V}, RVos K CA H P L vs xs → RVs K CA H P vs xs
  | _, _, .nil => .nil
  | _, _, .cons r t => .cons (r.elim id fun ⟨a, _, _, h, _⟩ => absurd h (hL a)) (RVos.rvs hL t)
theorem RVos.rvU {K : PySem.W.Frag} {H : Hp} {P L : Addr → Prop} : ∀ {vs : List Val} {xs : List V}, RVos K CA H P L vs xs → RVs K CA H (fun a => P a ∨ L a) vs xs
  | _, _, .nil => .nil
  | _, _, .cons r t => .cons r.rv (RVos.rvU t)
theorem LAs.trk {K : PySem.W.Frag} {H : Hp} {P : Addr → Prop} {env : Env} {σ : L2.St} {es : List E} (er : ER K CA H0 H P env σ) : Trk (LAs env σ es) H := fun a ⟨e, he, i, ei, o⟩ => by
  obtain ⟨xs, vs, _, _, h, _⟩ := o.at er
  exact ⟨xs, h⟩
theorem pe_call0S {CX : CXT} {k : Nat} {f : Addr} {fd : FuncData} {ps : List Str} {sp : Sp} {E : L2.St → XK} {x : Str} {p : Pos} (F : FnOk X.prog X.w X.K X.mg X.base CX k f fd ps sp) (hr : Room k X.A) (hg : Gl X x) (hm : X.mg x = some (.ref f)) (hk : PySem.W.keepIn X.K (.ref f) = true) (hb : Binds X.K fd ps []) (hx : ∀ σ, PassesAt CX X σ (E σ))
    (hdb : (x == ("__debug__" : Str)) = false) : PE X (.Call (.Name x p) [] [] pos) (tCallS sp E tNil) := by
  refine ⟨fun pins s σ H Q I h => ?_⟩
  refine wpAny_Call_Name_kw (ld_glob I hg hm ?_ hdb)
  exact PySem.W.callWith_K0 I.kIn hk (run_fnS (us := []) F hr hb (hx σ) I .nil h)
theorem backOk_rf {K : PySem.W.Frag} {H H' : Hp} {P P' : Addr → Prop} {p : Val × Bool} {x : V} (hb : backOk p = true) (r : RF K CA H H' P' p x) (hP : ∀ a, P a → P' a) : RF K CA H H' P p x := by
  obtain ⟨v, fr⟩ := p
  unfold backOk at hb
  rw [Bool.or_eq_true] at hb
  rcases r with ⟨e, r⟩ | ⟨e, a, xs, vs, e1, e2, h1, h2, h3, h4⟩
  · rcases hb with hb | hb
    · exact .inl ⟨e, RV.noL v hb r⟩
    · dsimp only at e
      rw [e, Bool.false_and] at hb; cases hb
  · dsimp only at e1
    subst e1
    rcases hb with hb | hb
    · cases hb
    · rw [Bool.and_eq_true] at hb
      exact .inr ⟨e, a, xs, vs, rfl, e2, h1, h2, fun q => h3 (hP a q), RVs.noL vs hb.2 h4⟩
theorem v3_call {x : Str} {f np : Nat} {p : Pos} {srcs : List Expr} {es : List E} (F : FnF X CA cl x f np) (hn : srcs.length = np) (hg : Gl X x) (hdb : (x == ("__debug__" : Str)) = false) (h : Vs3 CA cl H0 X srcs es) : V3 CA cl H0 X (.Call (.Name x p) srcs [] pos) (.call f es) := by
  refine .of (by intro i z; cases z) rfl fun W tk => ?_
  obtain ⟨k, ad, fd, ps, hps, hm, hk, hb, hF, hr⟩ := F.ex
  have pe : PE X (.Call (.Name x p) srcs [] pos) (tCallS (spF X.K CA cl f np) (WE W) (tAs X.K CA cl H0 W es)) := by
    cases h with
    | nil =>
      refine (pe_call0S hF hr hg hm hk hb (fun σ => passAt tk σ) hdb).imp fun σ H Q q => ?_
      obtain ⟨env, P, er, q⟩ := q
      exact q H P [] (.refl er.trk) .nil
    | cons h t => exact pe_callS hF hr hg hm hk hb (fun σ => passAt tk σ) (pa_as tk (.cons h t)) hdb (okSrc.st h.1 _ _) (star_any t _)
  refine pe.imp fun σ H Q q => ?_
  obtain ⟨env, P, er, q⟩ := q
  have q := ResG.bind q
  refine ⟨env, P, er, ?_⟩
  cases e0 : evAs cl es env with
  | exc c => rw [e0] at q; exact q
  | bad => rw [e0] at q; exact q
  | ok vs =>
    rw [e0] at q
    intro H1 P1 xs st1 r
    have q : ResG CA H σ W (fun p => Out X.K CA H P p Q) ((cl f vs).bind fun p => if lent env es && !backOk p then .bad else .ok p) := q
    have q := q.bind.at st1.s
    have len : xs.length = np := by
      rw [← r.length, evAs_len e0, ← h.length, hn]
    cases hl : lent env es with
    | false =>
      have r2 := RVos.rvs (fun a => lent_no hl) r
      refine ⟨P1, vs, st1.t, r2, len, ?_⟩
      cases e1 : cl f vs with
      | exc c => rw [e1] at q; exact q
      | bad => rw [e1] at q; exact q
      | ok p =>
        rw [e1] at q
        have q : ResG CA H σ W (fun p => Out X.K CA H P p Q) (if lent env es && !backOk p then .bad else .ok p) := q
        rw [hl, Bool.false_and, if_neg Bool.false_ne_true] at q
        exact Out.at q st1
    | true =>
      refine ⟨fun a => P1 a ∨ LAs env σ es a, vs, fun a z => z.elim (st1.t a) (LAs.trk (er.grow st1) a), RVos.rvU r, len, ?_⟩
      cases e1 : cl f vs with
      | exc c => rw [e1] at q; exact q
      | bad => rw [e1] at q; exact q
      | ok p =>
        rw [e1] at q
        have q : ResG CA H σ W (fun p => Out X.K CA H P p Q) (if lent env es && !backOk p then .bad else .ok p) := q
        cases hbk : backOk p with
        | false => rw [hl, hbk, if_pos (by decide)] at q; exact q.elim
        | true =>
          rw [hl, hbk, if_neg (by decide)] at q
          intro H' P' y st2 r2
          exact (Out.at q st1) H' P1 y ⟨st2.s, .refl, fun a z => by
            obtain ⟨ys, e⟩ := st1.t a z
            exact ⟨ys, st2.s _ _ e⟩⟩ (backOk_rf hbk r2 fun a z => st2.g.1 a (.inl z))
/-! ### built-in functions, isinstance -/
theorem evBf_ne (f : Bf) (vs : List Val) (c : Nat) : evBf f vs ≠ .exc c := by
  intro e
  unfold evBf at e
  split at e
  · unfold evB1 at e
    split at e <;> first | cases e | (split at e <;> cases e)
  · unfold evB2 at e
    split at e <;> first | cases e | skip
    · split at e <;> cases e
    · split at e
      · split at e <;> cases e
      · cases e
  · cases e
theorem v3_blt (hc : X.calm = true) {f : Bf} (hf : bfFn f = true) {p : Pos} {srcs : List Expr} {es : List E} (hg : Gl X (bfN f)) (hm : X.mg (bfN f) = none) (h : Vs3 CA cl H0 X srcs es) (hne : srcs ≠ []) : V3 CA cl H0 X (.Call (.Name (bfN f) p) srcs [] pos) (.blt f es) := by
  refine .of (by intro i z; cases z) rfl fun W tk => ?_
  have pe : PE X (.Call (.Name (bfN f) p) srcs [] pos) (tCB (rBf X.K CA f) (tAs X.K CA cl H0 W es)) := by
    cases h with
    | nil => exact absurd rfl hne
    | cons h t =>
      have ha := pa_as tk (.cons h t)
      have st := okSrc.st h.1
      have cb := call_bf (CA := CA) hc f hf
      cases f
      all_goals first
        | exact absurd hf (by decide)
        | exact pe_callB cb hg hm (by decide +kernel) ha (by decide) (by decide) (st _ _) (star_any t _)
        | exact pe_callTy cb hg hm (by decide +kernel) ha (by decide) (by decide) (st _ _) (star_any t _)
  refine pe.imp fun σ H Q q => ?_
  obtain ⟨env, P, er, q⟩ := q
  refine ⟨env, P, er, (ResG.bind q).imp fun vs q H1 P1 xs st1 r => ⟨vs, P1, _, st1.t, r, ?_⟩⟩
  have q := q.map
  cases e1 : evBf f vs with
  | ok v => rw [e1] at q; exact Out.at q st1
  | exc c => exact absurd e1 (evBf_ne _ _ _)
  | bad => rw [e1] at q; exact q.elim
/-- the method of a list: count, index -/
def mtN : Bf → Str
  | .idx => "index"
  | _ => "count"
theorem v3_mt (hu : X.A.units + 64 < cLine) {f : Bf} (hf : bfFn f = false) {k : Bool} {n : Nat} {pa p1 pc : Pos} (hline : (pa.endLine == pc.line) = true) (hbase : attributeBase a (mtN f) X.env (eval a X.env) = eval a X.env) (ha : V3 CA cl H0 X a ea) :
    V3 CA cl H0 X (.Call (.Attribute a (mtN f) pa) [.Constant (.bool k) n p1] [] pc) (.blt f [ea, .cst (.bl k)]) := by
  refine .of (by intro i z; cases z) rfl fun W tk => ?_
  have pe : PE X (.Call (.Attribute a (mtN f) pa) [.Constant (.bool k) n p1] [] pc) (tBM X.K "list" (fun x xs H Q => ∃ (va : Val) (P L : Addr → Prop), Trk P H ∧ RVo X.K CA H P L va x ∧ xs = [.bl k] ∧ match evB2 f va (.bl k) with | .ok v => Out X.K CA H P (v, isLst v) Q | _ => False) (tO X.K CA cl H0 W ea) (tCons (tC (.bl k)) tNil)) := by
    cases f <;> first | exact absurd hf (by decide) | skip
    · refine pe_bm (id := "list.count") PySem.F.plainAttrs_list PySem.F.slot_list_count PySem.F.type_list_count (fun pins s σ H x xs v us Q I rx rxs h => ?_) (ha.opd W tk) (pa_cons pe_bl pa_nil) hbase rfl hline rfl rfl
      obtain ⟨va, P, L, t, rv, rfl, h⟩ := h
      exact call_mt hu .cnt rfl va k I (.cons rx rxs) t rv h
    · refine pe_bm (id := "list.index") PySem.F.plainAttrs_list PySem.F.slot_list_index PySem.F.type_list_index (fun pins s σ H x xs v us Q I rx rxs h => ?_) (ha.opd W tk) (pa_cons pe_bl pa_nil) hbase rfl hline rfl rfl
      obtain ⟨va, P, L, t, rv, rfl, h⟩ := h
      exact call_mt hu .idx rfl va k I (.cons rx rxs) t rv h
  refine pe.imp fun σ H Q q => ?_
  obtain ⟨env, P, er, q⟩ := q
  refine ⟨env, P, er, ?_⟩
  have q : ResG CA H σ W (fun p => Out X.K CA H P p Q) ((opd env ea (evE cl ea env)).bind fun x => (evB2 f x (.bl k)).map fun v => (v, isLst v)) := by
    have e : evE cl (.blt f [ea, .cst (.bl k)]) env = (opd env ea (evE cl ea env)).bind fun x => (evB2 f x (.bl k)).map fun v => (v, isLst v) := by
      show ((opd env ea (evE cl ea env)).bind fun v => R.ok [v, Val.bl k]).bind (fun vs => (evBf f vs).map fun v => (v, isLst v)) = _
      rw [R.bind_assoc]; rfl
    rw [← e]; exact q
  refine q.bind.imp fun va q H1 P1 x st1 r1 => ?_
  have q := q.map
  cases e1 : evB2 f va (.bl k) with
  | exc c => exact absurd e1 (evBf_ne f [va, .bl k] c)
  | bad => rw [e1] at q; exact q.elim
  | ok v =>
    rw [e1] at q
    refine ⟨?_, ⟨va, P1, _, st1.t, r1, rfl, by rw [e1]; exact Out.at q st1⟩⟩
    cases va <;> first | (exfalso; cases f <;> first | exact absurd hf (by decide) | cases e1) | skip
    obtain ⟨ad, ys, rfl, sa, qa⟩ := r1.lst
    exact .inl ⟨rfl, ys, SqL.of sa⟩
/-- a class's name, as it is read -/
structure ClsP (CA : Nat → Option Addr) (X : Cx) (src : Expr) (c : Cl) : Prop where
  ex : ∃ cv cw, clsV CA c cv cw ∧ PE X src (tC cv)
theorem isi1_ne (v : Val) (d : Cl) (c : Nat) : isi1 v d ≠ .exc c := by
  intro e
  unfold isi1 at e
  split at e
  · split at e
    · split at e
      · cases e
      · split at e <;> cases e
    · split at e
      · exact ofO_ne _ _ e
      · cases e
  · split at e <;> cases e
theorem isiA_ne (v : Val) (c : Nat) : ∀ (ds : List Cl), isiA v ds ≠ .exc c
  | [], e => by cases e
  | d :: ds, e => by
    unfold isiA at e
    cases e1 : isi1 v d with
    | exc x => exact isi1_ne _ _ _ e1
    | bad => rw [e1] at e; cases e
    | ok b =>
      rw [e1] at e
      have e : (if b then R.ok true else isiA v ds) = .exc c := e
      cases b
      · exact isiA_ne v c ds e
      · cases e
theorem v3_is1 (T : CFs X.K CA) {p : Pos} {csrc : Expr} {c : Cl} (hg : Gl X "isinstance") (hm : X.mg "isinstance" = none) (hs : okSrc a = true) (hs2 : okSrc csrc = true) (ha : V3 CA cl H0 X a ea) (hc : ClsP CA X csrc c) :
    V3 CA cl H0 X (.Call (.Name "isinstance" p) [a, csrc] [] pos) (.isi ea [c]) := by
  refine .of (by intro i z; cases z) rfl fun W tk => ?_
  obtain ⟨cv, cw, hcv, pc⟩ := hc.ex
  refine (pe_callB (call_is1 T c) hg hm (by decide +kernel) (pa_cons (ha.opd W tk) (pa_cons pc pa_nil (okSrc.st hs2 _ _)) (okSrc.st hs _ _)) (by decide) (by decide) (okSrc.st hs _ _) (by rw [okSrc.st hs2]; rfl)).imp fun σ H Q q => ?_
  obtain ⟨env, P, er, q⟩ := q
  refine ⟨env, P, er, (ResG.bind q).imp fun va q H1 P1 x st1 r => ?_⟩
  cases e1 : isi1 va c with
  | exc z => exact absurd e1 (isi1_ne _ _ _)
  | bad =>
    simp only [isiA, e1, R.bind_bad] at q
    exact q.elim
  | ok b =>
    have e2 : isiA va [c] = .ok b := by
      simp only [isiA, e1, R.bind_ok]
      cases b <;> rfl
    rw [e2] at q
    exact ⟨va, P1, _, x, cv, cw, b, rfl, st1.t, r, hcv, e1, (Out.at q st1).bl st1.t⟩
theorem v3_isA (T : CFs X.K CA) {p p2 : Pos} {k : Nat} {csrcs : List Expr} {cs : List Cl} (hg : Gl X "isinstance") (hm : X.mg "isinstance" = none) (hs : okSrc a = true) (hl : lenOk csrcs.length = true) (ha : V3 CA cl H0 X a ea)
    (hc : Paired (fun s c => okSrc s = true ∧ ClsP CA X s c) csrcs cs) : V3 CA cl H0 X (.Call (.Name "isinstance" p) [a, .Tuple csrcs k p2] [] pos) (.isi ea cs) := by
  refine .of (by intro i z; cases z) rfl fun W tk => ?_
  have hcs : ∃ (cvs : List V) (cws : List Value), cvs.length = cws.length ∧ cvs.length = csrcs.length ∧ Paired (fun c (p : V × Value) => clsV CA c p.1 p.2) cs (cvs.zip cws) ∧ PA X csrcs (fun σ H Q => Q cvs H) := by
    clear hl
    induction hc with
    | nil => exact ⟨[], [], rfl, rfl, .nil, pa_nil⟩
    | cons h t ih =>
      obtain ⟨cvs, cws, h1, h2, h3, h4⟩ := ih
      obtain ⟨cv, cw, hcv, pc⟩ := h.2.ex
      exact ⟨cv :: cvs, cw :: cws, by rw [List.length_cons, List.length_cons, h1], by rw [List.length_cons, List.length_cons, h2], .cons hcv h3, pa_cons pc h4 (okSrc.st h.1 _ _)⟩
  obtain ⟨cvs, cws, h1, h2, h3, h4⟩ := hcs
  refine (pe_callB (call_isA T cs) hg hm (by decide +kernel) (pa_cons (ha.opd W tk) (pa_cons (pe_tup h4) pa_nil) (okSrc.st hs _ _)) (by decide) (by decide) (okSrc.st hs _ _) (by rfl)).imp fun σ H Q q => ?_
  obtain ⟨env, P, er, q⟩ := q
  refine ⟨env, P, er, (ResG.bind q).imp fun va q H1 P1 x st1 r => ⟨by rw [h2]; exact LIM_le hl, fun tp htp => ?_⟩⟩
  have st2 := step_new (o := .tup cvs) htp st1.t
  cases e1 : isiA va cs with
  | exc z => exact absurd e1 (isiA_ne _ _ _)
  | bad => rw [e1] at q; exact q.elim
  | ok b =>
    rw [e1] at q
    exact ⟨va, P1, _, x, tp, cvs, cws, b, rfl, st2.t, r.mono st2.s fun _ z => z, upd_same, h3, h1, e1, (Out.at q (st1.trans st2)).bl st2.t⟩
end
end G

set_option linter.all false
set_option maxHeartbeats 2000000
set_option maxRecDepth 100000
/-! G6: targets, what is walked, comprehensions. -/
namespace G
open PySem PySem.Spec PyProof.Rows L2 HT
/-! ### slots -/
section
variable {K : PySem.W.Frag} {CA : Nat → Option Addr} {H H1 H' H2 : Hp} {H0 : Bs} {P P1 P' P2 : Addr → Prop} {σ : L2.St} {env : Env}
theorem set_get {α : Type} {l : List α} {i j : Nat} {a b : α} (h : (l.set i a)[j]? = some b) : (i = j ∧ b = a) ∨ (i ≠ j ∧ l[j]? = some b) := by
  rw [List.getElem?_set] at h
  by_cases e : i = j
  · rw [if_pos e] at h
    subst e
    split at h
    · cases h; exact .inl ⟨rfl, rfl⟩
    · cases h
  · rw [if_neg e] at h
    exact .inr ⟨e, h⟩
theorem ER.lt (er : ER K CA H0 H P env σ) {i : Nat} {p : Option (Val × Bool)} (h : env[i]? = some p) : i < σ.length := by
  rw [← er.len]
  exact (List.getElem?_eq_some_iff.mp h).1
theorem ER.put (er : ER K CA H0 H P env σ) {i : Nat} {v : Val} {x : V} (r : RV K CA H P v x) : ER K CA H0 H P (G.put env i v false) (σ.set i (some x)) where
  ext := er.ext
  gr := er.gr
  trk := er.trk
  len := by unfold G.put; rw [List.length_set, List.length_set, er.len]
  shr := fun j w h => by
    unfold G.put at h
    rcases set_get h with ⟨rfl, e⟩ | ⟨ne, h⟩
    · cases e
      have hl : i < σ.length := by
        have := (List.getElem?_eq_some_iff.mp h).1
        rw [List.length_set, er.len] at this
        exact this
      exact ⟨x, List.getElem?_set_self hl, r⟩
    · rw [List.getElem?_set_ne ne]
      exact er.shr j w h
  own := fun j w h => by
    unfold G.put at h
    rcases set_get h with ⟨rfl, e⟩ | ⟨ne, h⟩
    · cases e
    · rw [List.getElem?_set_ne ne]
      exact er.own j w h
  dis := fun j k w z a h1 h2 s1 s2 => by
    unfold G.put at h1 h2
    rcases set_get h1 with ⟨rfl, e⟩ | ⟨ne, h1⟩
    · cases e
    · rcases set_get h2 with ⟨rfl, e⟩ | ⟨ne2, h2⟩
      · cases e
      · rw [List.getElem?_set_ne ne] at s1
        rw [List.getElem?_set_ne ne2] at s2
        exact er.dis j k w z a h1 h2 s1 s2
/-- a list of one's own is put -/
theorem ER.putOwn (er : ER K CA H0 H P env σ) {i : Nat} {vs : List Val} {xs : List V} {a : Addr} (h : H a = some (.lst xs)) (np : ¬ P a) (n0 : H0.h a = none) (r : RVs K CA H P vs xs) (hd : ∀ j b, j ≠ i → OwnAt env σ j b → b ≠ a) :
    ER K CA H0 H P (G.put env i (.lst vs) true) (σ.set i (some (.ref a))) where
  ext := er.ext
  gr := er.gr
  trk := er.trk
  len := by unfold G.put; rw [List.length_set, List.length_set, er.len]
  shr := fun j w h => by
    unfold G.put at h
    rcases set_get h with ⟨rfl, e⟩ | ⟨ne, h⟩
    · cases e
    · rw [List.getElem?_set_ne ne]
      exact er.shr j w h
  own := fun j w hj => by
    unfold G.put at hj
    rcases set_get hj with ⟨rfl, e⟩ | ⟨ne, hj⟩
    · cases e
      have hl : i < σ.length := by
        have := (List.getElem?_eq_some_iff.mp hj).1
        rw [List.length_set, er.len] at this
        exact this
      exact ⟨a, xs, vs, rfl, List.getElem?_set_self hl, h, np, n0, r⟩
    · rw [List.getElem?_set_ne ne]
      exact er.own j w hj
  dis := fun j k w z b h1 h2 s1 s2 => by
    unfold G.put at h1 h2
    rcases set_get h1 with ⟨rfl, e⟩ | ⟨ne, h1⟩
    · rcases set_get h2 with ⟨e2, _⟩ | ⟨ne2, h2⟩
      · exact e2
      · rcases set_get s1 with ⟨_, e⟩ | ⟨n, _⟩
        · cases e
          rw [List.getElem?_set_ne ne2] at s2
          exact absurd rfl (hd k a (Ne.symm ne2) ⟨⟨_, h2⟩, s2⟩)
        · exact absurd rfl n
    · rw [List.getElem?_set_ne ne] at s1
      rcases set_get h2 with ⟨rfl, e⟩ | ⟨ne2, h2⟩
      · rcases set_get s2 with ⟨_, e⟩ | ⟨n, _⟩
        · cases e
          exact absurd rfl (hd j a (Ne.symm ne) ⟨⟨_, h1⟩, s1⟩)
        · exact absurd rfl n
      · rw [List.getElem?_set_ne ne2] at s2
        exact er.dis j k w z b h1 h2 s1 s2
/-- fewer slots are known -/
theorem ER.less (er : ER K CA H0 H P env σ) {env' : Env} {σ' : L2.St} (l1 : env'.length = env.length) (l2 : σ'.length = σ.length) (h : ∀ (i : Nat) p, env'[i]? = some (some p) → env[i]? = some (some p) ∧ σ'[i]? = σ[i]?) : ER K CA H0 H P env' σ' where
  ext := er.ext
  gr := er.gr
  trk := er.trk
  len := by rw [l1, l2, er.len]
  shr := fun j w hj => by
    obtain ⟨h1, h2⟩ := h j _ hj
    rw [h2]; exact er.shr j w h1
  own := fun j w hj => by
    obtain ⟨h1, h2⟩ := h j _ hj
    rw [h2]; exact er.own j w h1
  dis := fun j k w z b h1 h2 s1 s2 => by
    obtain ⟨g1, g2⟩ := h j _ h1
    obtain ⟨g3, g4⟩ := h k _ h2
    rw [g2] at s1
    rw [g4] at s2
    exact er.dis j k w z b g1 g3 s1 s2
theorem wipe_get (σ : L2.St) : ∀ (vs : List Nat) (j : Nat), (wipe σ vs)[j]? = if j ∈ vs then (σ[j]?).map (fun _ => none) else σ[j]?
  | [], j => by simp [wipe]
  | v :: vs, j => by
    unfold wipe
    by_cases e : v = j
    · subst e
      rw [if_pos List.mem_cons_self, List.getElem?_set_self', wipe_get σ vs v]
      split <;> simp [Option.map_map, Function.comp_def] <;> rfl
    · rw [List.getElem?_set_ne e, wipe_get σ vs j]
      have : (j ∈ v :: vs) ↔ j ∈ vs := by simp [Ne.symm e]
      simp only [this]
theorem wipeE_get (env : Env) : ∀ (vs : List Nat) (j : Nat), (wipeE env vs)[j]? = if j ∈ vs then (env[j]?).map (fun _ => none) else env[j]?
  | [], j => by simp [wipeE]
  | v :: vs, j => by
    unfold wipeE
    by_cases e : v = j
    · subst e
      rw [if_pos List.mem_cons_self, List.getElem?_set_self', wipeE_get env vs v]
      split <;> simp [Option.map_map, Function.comp_def] <;> rfl
    · rw [List.getElem?_set_ne e, wipeE_get env vs j]
      have : (j ∈ v :: vs) ↔ j ∈ vs := by simp [Ne.symm e]
      simp only [this]
theorem wipeE_length (env : Env) : ∀ vs : List Nat, (wipeE env vs).length = env.length
  | [] => rfl
  | v :: vs => by unfold wipeE; rw [List.length_set, wipeE_length env vs]
theorem wipe_set {σ : L2.St} {vs : List Nat} {i : Nat} {y : Option V} (h : i ∈ vs) : wipe (σ.set i y) vs = wipe σ vs := by
  refine List.ext_getElem? fun j => ?_
  rw [wipe_get, wipe_get]
  by_cases e : i = j
  · subst e
    rw [if_pos h, if_pos h, List.getElem?_set_self']
    simp [Option.map_map, Function.comp_def]
  · rw [List.getElem?_set_ne e]
theorem wipe_wipe {σ : L2.St} {vs : List Nat} : wipe (wipe σ vs) vs = wipe σ vs := by
  refine List.ext_getElem? fun j => ?_
  rw [wipe_get, wipe_get]
  split <;> simp [Option.map_map, Function.comp_def]
theorem ER.wipe (er : ER K CA H0 H P env σ) (vs : List Nat) : ER K CA H0 H P (wipeE env vs) (L2.wipe σ vs) := by
  refine er.less (wipeE_length _ _) (wipe_length _ _) fun i p h => ?_
  rw [wipeE_get] at h
  rw [wipe_get]
  split at h
  · cases e : env[i]? with
    | none => rw [e] at h; cases h
    | some q => rw [e] at h; cases h
  · rename_i hn
    exact ⟨h, if_neg hn⟩
end
/-! ### targets -/
def gN : List Nat → TGs
  | [] => gNil
  | i :: is => gCons (gName i) (gN is)
def gT (K : PySem.W.Frag) : Tg → TG
  | .one i => gName i
  | .tup is => gTup K is.length (gN is)
section
variable {K : PySem.W.Frag} {CA : Nat → Option Addr} {H : Hp} {H0 : Bs} {P : Addr → Prop}
theorem putAll_ok : ∀ {is : List Nat} {vs : List Val} {xs : List V} {env env' : Env} {σ : L2.St} {Q : L2.St → Hp → Prop}, ER K CA H0 H P env σ → RVs K CA H P vs xs → putAll env is vs = .ok env' →
    (∀ σ', ER K CA H0 H P env' σ' → (∀ ws : List Nat, (∀ i ∈ is, i ∈ ws) → L2.wipe σ' ws = L2.wipe σ ws) → Q σ' H) → gN is xs σ H Q
  | [], _, _, _, _, _, _, er, .nil, h, q => by
    cases h
    exact ⟨rfl, q _ er fun _ _ => rfl⟩
  | [], _, _, _, _, _, _, _, .cons _ _, h, _ => by cases h
  | _ :: _, _, _, _, _, _, _, _, .nil, h, _ => by cases h
  | i :: is, _, _, env, env', σ, Q, er, .cons (x := x) (xs := xs) r t, h, q => by
    refine ⟨x, xs, rfl, ?_⟩
    show gN is xs (σ.set i (some x)) H Q
    refine putAll_ok (er.put r) t h fun σ' er' hw => q σ' er' fun ws hws => ?_
    rw [hw ws fun j hj => hws j (List.mem_cons_of_mem _ hj), wipe_set (hws i List.mem_cons_self)]
theorem bindT_ok {tg : Tg} {env env' : Env} {σ : L2.St} {v : Val} {x : V} {Q : L2.St → Hp → Prop} (er : ER K CA H0 H P env σ) (r : RV K CA H P v x) (h : bindT tg env v = .ok env')
    (q : ∀ σ', ER K CA H0 H P env' σ' → (∀ ws : List Nat, (∀ i ∈ tgs tg, i ∈ ws) → L2.wipe σ' ws = L2.wipe σ ws) → Q σ' H) : gT K tg x σ H Q := by
  cases tg with
  | one i =>
    cases h
    exact q _ (er.put r) fun ws hws => wipe_set (hws i List.mem_cons_self)
  | tup is =>
    unfold bindT at h
    split at h
    · rename_i z; cases z
    · rename_i z; cases z
      split at h
      · rename_i vs
        split at h
        · rename_i hl
          cases r with
          | tup s t =>
            refine ⟨_, _, rfl, s, ?_, putAll_ok er t h q⟩
            rw [← t.length, hl]
        · cases h
      · cases h
end
/-- a target, as it is written -/
inductive TgP (X : Cx) : Expr → Tg → Prop where
  | one {x : Str} {i : Nat} {p : Pos} (hi : X.N[i]? = some x) (hl : Loc X.env.scope x) (hf : X.fn x = true ∨ X.env.scope.names.lookup x = some .local) : TgP X (.Name x p) (.one i)
  | tup {es : List Expr} {is : List Nat} {k : Nat} {p : Pos} (h : Paired (fun e (i : Nat) => ∃ x q, e = Expr.Name x q ∧ X.N[i]? = some x ∧ Loc X.env.scope x ∧ (X.fn x = true ∨ X.env.scope.names.lookup x = some .local)) es is) : TgP X (.Tuple es k p) (.tup is)
theorem pg_tg {X : Cx} {src : Expr} {tg : Tg} (hN : X.N.Nodup) (hc : X.calm = true) (h : TgP X src tg) : PG X src (gT X.K tg) := by
  cases h with
  | one hi hl hf => exact pg_name hN hi hl hf
  | @tup es is k p h =>
    have g : PGs X es (gN is) ∧ (assignEach es X.env).length = is.length ∧ (assignEach es X.env).findIdx? (·.1) = none := by
      induction h with
      | nil => exact ⟨pgs_nil, rfl, rfl⟩
      | cons h t ih =>
        obtain ⟨x, q, rfl, hi, hl, hf⟩ := h
        obtain ⟨i1, i2, i3⟩ := ih
        refine ⟨pgs_cons (pg_name hN hi hl hf) i1, ?_, ?_⟩
        · show (assignEach _ X.env).length + 1 = _
          rw [i2]; rfl
        · show List.findIdx? (·.1) ((false, _) :: assignEach _ X.env) = none
          rw [List.findIdx?_cons, if_neg Bool.false_ne_true, i3]; rfl
    exact pg_tup hc g.1 g.2.1 g.2.2
/-! ### what is walked -/
structure Src (K : PySem.W.Frag) (CA : Nat → Option Addr) (R : Hp → (Addr → Prop) → Prop) (J : L2.It) (its : List Val) : Prop where
  go : ∀ (i : Nat) H P, R H P → i < its.length → J.go i H
  yld : ∀ (i : Nat) H P x H', R H P → i < its.length → J.yld i H x H' → H' = H ∧ ∃ v, its[i]? = some v ∧ RV K CA H P v x
  stop : ∀ H P, R H P → J.stop its.length H
def SameR (H1 : Hp) (P1 : Addr → Prop) (H : Hp) (P : Addr → Prop) : Prop := Same H1 H ∧ ∀ a, P1 a → P a
def PersR (H1 : Hp) (P1 : Addr → Prop) (H : Hp) (P : Addr → Prop) : Prop := Pers P1 H1 H ∧ ∀ a, P1 a → P a
theorem SameR.pers {H1 H : Hp} {P1 P : Addr → Prop} (h : SameR H1 P1 H P) : PersR H1 P1 H P := ⟨.of_same h.1, h.2⟩
section
variable {K : PySem.W.Frag} {CA : Nat → Option Addr} {H1 : Hp} {P1 : Addr → Prop} {R : Hp → (Addr → Prop) → Prop}
theorem src_list {a : Addr} {xs : List V} {vs : List Val} (hR : ∀ H P, R H P → PersR H1 P1 H P) (hl : ∀ H P, R H P → H a = some (.lst xs)) (r : RVs K CA H1 P1 vs xs) : Src K CA R (Itl K a) vs where
  go := fun i H P h hi => by
    obtain ⟨x, hx, _⟩ := r.get (List.getElem?_eq_getElem hi)
    exact ⟨xs, x, SqL.of (hl H P h), hx⟩
  yld := fun i H P x H' h hi y => by
    obtain ⟨e, hy⟩ := y
    have hx := hy xs (SqL.of (hl H P h))
    obtain ⟨v, hv, rv⟩ := r.get' hx
    have := hR H P h
    exact ⟨e, v, hv, RV.pers this.1 this.2 v rv⟩
  stop := fun H P h => ⟨xs, SqL.of (hl H P h), Nat.le_of_eq r.length.symm⟩
theorem src_tup {a : Addr} {xs : List V} {vs : List Val} (hR : ∀ H P, R H P → PersR H1 P1 H P) (s : SqT K H1 a xs) (r : RVs K CA H1 P1 vs xs) : Src K CA R (Itt K a) vs where
  go := fun i H P h hi => by
    obtain ⟨x, hx, _⟩ := r.get (List.getElem?_eq_getElem hi)
    exact ⟨xs, x, (hR H P h).1.sqT s, hx⟩
  yld := fun i H P x H' h hi y => by
    obtain ⟨e, hy⟩ := y
    have hx := hy xs ((hR H P h).1.sqT s)
    obtain ⟨v, hv, rv⟩ := r.get' hx
    have := hR H P h
    exact ⟨e, v, hv, RV.pers this.1 this.2 v rv⟩
  stop := fun H P h => ⟨xs, (hR H P h).1.sqT s, Nat.le_of_eq r.length.symm⟩
theorem src_rng (lo : Int) (n : Nat) : Src K CA R (Itr lo n) (rngV lo n) where
  go := fun i H P h hi => by
    unfold rngV at hi
    rw [List.length_map, List.length_range] at hi
    exact hi
  yld := fun i H P x H' h hi y => by
    obtain ⟨e, hx⟩ := y
    unfold rngV at hi ⊢
    rw [List.length_map, List.length_range] at hi
    refine ⟨e, .int (lo + i), ?_, ?_⟩
    · rw [List.getElem?_map, List.getElem?_range hi]; rfl
    · rw [hx]; exact .int _
  stop := fun H P h => by
    unfold rngV
    rw [List.length_map, List.length_range]
    exact Nat.le_refl _
theorem rev_get {α : Type} {l : List α} {i : Nat} (h : i < l.length) : l.reverse[i]? = l[l.length - 1 - i]? := List.getElem?_reverse h
theorem src_revL {a : Addr} {xs : List V} {vs : List Val} (hR : ∀ H P, R H P → PersR H1 P1 H P) (hl : ∀ H P, R H P → H a = some (.lst xs)) (r : RVs K CA H1 P1 vs xs) : Src K CA R (Itv K a xs.length) vs.reverse where
  go := fun i H P h hi => by
    rw [List.length_reverse] at hi
    have hi2 := hi
    rw [r.length] at hi2
    have : xs.length - 1 - i < xs.length := by omega
    exact ⟨hi2, xs, _, SqL.of (hl H P h), List.getElem?_eq_getElem this⟩
  yld := fun i H P x H' h hi y => by
    obtain ⟨e, hy⟩ := y
    rw [List.length_reverse] at hi
    have hx := hy xs (SqL.of (hl H P h))
    obtain ⟨v, hv, rv⟩ := r.get' hx
    have := hR H P h
    refine ⟨e, v, ?_, RV.pers this.1 this.2 v rv⟩
    rw [rev_get hi, r.length]
    exact hv
  stop := fun H P h => by
    rw [List.length_reverse, r.length]
    exact Nat.le_refl _
theorem src_revT {a : Addr} {xs : List V} {vs : List Val} (hR : ∀ H P, R H P → PersR H1 P1 H P) (s : SqT K H1 a xs) (r : RVs K CA H1 P1 vs xs) : Src K CA R (RT.ItvT K a xs.length) vs.reverse where
  go := fun i H P h hi => by
    rw [List.length_reverse] at hi
    have hi2 := hi
    rw [r.length] at hi2
    have : xs.length - 1 - i < xs.length := by omega
    exact ⟨hi2, xs, _, (hR H P h).1.sqT s, List.getElem?_eq_getElem this⟩
  yld := fun i H P x H' h hi y => by
    obtain ⟨e, hy⟩ := y
    rw [List.length_reverse] at hi
    have hx := hy xs ((hR H P h).1.sqT s)
    obtain ⟨v, hv, rv⟩ := r.get' hx
    have := hR H P h
    refine ⟨e, v, ?_, RV.pers this.1 this.2 v rv⟩
    rw [rev_get hi, r.length]
    exact hv
  stop := fun H P h => by
    rw [List.length_reverse, r.length]
    exact Nat.le_refl _
end
/-- the reading of what a comprehension, a loop walks -/
def tI (K : PySem.W.Frag) (CA : Nat → Option Addr) (cl : Nat → List Val → R (Val × Bool)) (H0 : Bs) (W : WX) (RR : Hp → (Addr → Prop) → Hp → (Addr → Prop) → Prop) (it : G.It) : TI := fun σ H R => ∃ env P, ER K CA H0 H P env σ ∧
  ResG CA H σ W (fun its => ∀ J H' P', Step P H P' H' → Src K CA (RR H' P') J its → R J H') (evIt cl it env)
/-- .. in both uses -/
structure VI (CA : Nat → Option Addr) (cl : Nat → List Val → R (Val × Bool)) (H0 : Bs) (X : Cx) (src : Expr) (it : G.It) : Prop where
  comp : ∀ W tg, Takes X W → PI X tg src (tI X.K CA cl H0 W SameR it)
  loop : borI it = false → ∀ W tg, Takes X W → PI X tg src (tI X.K CA cl H0 W PersR it)
  fs : ∀ env x, foldedSetIterable src env x = pure x
section
variable {X : Cx} {CA : Nat → Option Addr} {cl : Nat → List Val → R (Val × Bool)} {H0 : Bs} {src a b : Expr} {e ea eb : E} {pos p : Pos}
theorem toI_res {H : Hp} {σ : L2.St} {W : WX} {α : Type} {post : α → Prop} {v : Val} {f : Int → G.R α} (q : ResG CA H σ W post ((toI v).bind f)) : ∃ k, v = .int k ∧ ResG CA H σ W post (f k) := by
  cases v <;> first | exact q.elim | exact ⟨_, rfl, q⟩
theorem PI.imp {tg l : Expr} {w w' : TI} (h : PI X tg l w) (i : ∀ σ H R, w' σ H R → w σ H R) : PI X tg l w' := ⟨fun pins s σ H R I q => h.run pins s σ H R I (i σ H R q)⟩
theorem vi_val (hs : okSrc a = true) (ha : V3 CA cl H0 X a ea) : VI CA cl H0 X a (.val ea) where
  fs := fun env x => okSrc.fs hs env x
  comp := fun W tg tk => ⟨fun pins s σ H R I h => by
    obtain ⟨env, P, er, q⟩ := h
    have q := ResG.bind q
    cases e1 : opd env ea (evE cl ea env) with
    | exc c => exact (pi_list (ha.opd W tk)).run pins s σ H R I ⟨env, P, er, by rw [e1] at q ⊢; exact q⟩
    | bad => rw [e1] at q; exact q.elim
    | ok v =>
      rw [e1] at q
      cases v <;> first | exact q.elim | skip
      case tup vs =>
        refine (pi_tup (ha.opd W tk)).run pins s σ H R I ⟨env, P, er, ?_⟩
        rw [e1]
        intro H' P' x st r
        obtain ⟨a, xs, rfl, sa, qa⟩ := r.tup
        exact ⟨a, rfl, ⟨xs, sa⟩, q _ H' P' st (src_tup (fun H P h => h.pers) sa qa)⟩
      case lst vs =>
        refine (pi_list (ha.opd W tk)).run pins s σ H R I ⟨env, P, er, ?_⟩
        rw [e1]
        intro H' P' x st r
        obtain ⟨a, xs, rfl, sa, qa⟩ := r.lst
        exact ⟨a, rfl, ⟨xs, SqL.of sa⟩, q _ H' P' st (src_list (fun H P h => h.pers) (fun H P h => h.1 _ _ sa) qa)⟩⟩
  loop := fun hb W tg tk => ⟨fun pins s σ H R I h => by
    obtain ⟨env, P, er, q⟩ := h
    have q := ResG.bind q
    have nb : ∀ i, ea ≠ .bor i := fun i z => by subst z; cases hb
    rw [tE_nb nb] at q
    have q := q.map
    cases e1 : evE cl ea env with
    | exc c => exact (pi_list (ha.val W tk)).run pins s σ H R I ⟨env, P, er, by rw [e1] at q ⊢; exact q⟩
    | bad => rw [e1] at q; exact q.elim
    | ok p =>
      rw [e1] at q
      obtain ⟨v, fr⟩ := p
      cases v <;> first | exact q.elim | skip
      case tup vs =>
        refine (pi_tup (ha.val W tk)).run pins s σ H R I ⟨env, P, er, ?_⟩
        rw [e1]
        intro H' P' x st r
        obtain ⟨P3, st3, g3, r3⟩ := r.rv st
        cases r3 with
        | tup sa qa => exact ⟨_, rfl, ⟨_, sa⟩, q _ H' P3 st3 (src_tup (fun H P h => h) sa qa)⟩
      case lst vs =>
        refine (pi_list (ha.val W tk)).run pins s σ H R I ⟨env, P, er, ?_⟩
        rw [e1]
        intro H' P' x st r
        obtain ⟨P3, st3, g3, r3⟩ := r.rv st
        cases r3 with
        | lst pa sa qa => exact ⟨_, rfl, ⟨_, SqL.of sa⟩, q _ H' P3 st3 (src_list (fun H P h => h) (fun H P h => h.1 _ _ sa (.inl pa)) qa)⟩⟩
theorem vi_rng1 (hg : Gl X "range") (hm : X.mg "range" = none) (hs : okSrc a = true) (ha : V3 CA cl H0 X a ea) : VI CA cl H0 X (.Call (.Name "range" p) [a] [] pos) (.rng1 ea) := by
  have go : ∀ {RR} W tg, Takes X W → PI X tg (.Call (.Name "range" p) [a] [] pos) (tI X.K CA cl H0 W RR (.rng1 ea)) := fun {RR} W tg tk =>
    PI.imp (pi_range1 hg hm (pa_cons (ha.opd W tk) pa_nil (okSrc.st hs _ _)) (okSrc.st hs _ _)) fun σ H R q => by
      obtain ⟨env, P, er, q⟩ := q
      refine ⟨env, P, er, (ResG.bind q).imp fun v q H' P' x st r => ?_⟩
      cases v <;> first | exact q.elim | skip
      case int n =>
        cases r.int
        have q : ResG CA H σ W _ (if rngOk n then G.R.ok (rngV 0 n.toNat) else .bad) := q
        cases hr : rngOk n with
        | false => rw [hr] at q; exact q.elim
        | true =>
          rw [hr] at q
          have hb : -1000000 ≤ n ∧ n ≤ 1000000 := rng_of hr
          exact ⟨n, rfl, by omega, by omega, q _ H' P' st (src_rng 0 _)⟩
  exact ⟨fun W tg tk => go W tg tk, fun _ W tg tk => go W tg tk, fun env x => rfl⟩
theorem vi_rng2 (hg : Gl X "range") (hm : X.mg "range" = none) (hs : okSrc a = true) (hs2 : okSrc b = true) (ha : V3 CA cl H0 X a ea) (hb : V3 CA cl H0 X b eb) : VI CA cl H0 X (.Call (.Name "range" p) [a, b] [] pos) (.rng2 ea eb) := by
  have go : ∀ {RR} W tg, Takes X W → PI X tg (.Call (.Name "range" p) [a, b] [] pos) (tI X.K CA cl H0 W RR (.rng2 ea eb)) := fun {RR} W tg tk =>
    PI.imp (pi_range2 hg hm (pa_cons (ha.opd W tk) (pa_cons (hb.opd W tk) pa_nil (okSrc.st hs2 _ _)) (okSrc.st hs _ _)) (by rw [okSrc.st hs, okSrc.st hs2]; rfl) (by rw [okSrc.st hs2]; rfl)) fun σ H R q => by
      obtain ⟨env, P, er, q⟩ := q
      refine ⟨env, P, er, (ResG.bind q).imp fun v q H1 P1 x st r => ⟨env, P1, er.grow st, (q.bind.at st.s).imp fun w q H' P' y st2 r2 => ?_⟩⟩
      obtain ⟨m, em, q⟩ := toI_res q
      obtain ⟨n, en, q⟩ := toI_res q
      rw [em] at r
      rw [en] at r2
      cases r.int
      cases r2.int
      cases hr : (rngOk m && rngOk n) with
      | false => rw [hr] at q; exact q.elim
      | true =>
        rw [hr] at q
        rw [Bool.and_eq_true] at hr
        have h1 : -1000000 ≤ m ∧ m ≤ 1000000 := rng_of hr.1
        have h2 : -1000000 ≤ n ∧ n ≤ 1000000 := rng_of hr.2
        exact ⟨m, n, rfl, ⟨by omega, by omega, by omega, by omega⟩, q _ H' P' (st.trans st2) (src_rng m _)⟩
  exact ⟨fun W tg tk => go W tg tk, fun _ W tg tk => go W tg tk, fun env x => rfl⟩
theorem vi_rvd (hg : Gl X "reversed") (hm : X.mg "reversed" = none) (hs : okSrc a = true) (ha : V3 CA cl H0 X a ea) : VI CA cl H0 X (.Call (.Name "reversed" p) [a] [] pos) (.rvd ea) where
  fs := fun env x => rfl
  comp := fun W tg tk => PI.imp (RT.pi_revA hg hm (ha.opd W tk) (okSrc.st hs _ _)) fun σ H R q => by
    obtain ⟨env, P, er, q⟩ := q
    refine ⟨env, P, er, (ResG.bind q).imp fun v q H' P' x st r => ?_⟩
    have q := ResG.map q
    cases v <;> first | exact q.elim | skip
    case tup vs =>
      obtain ⟨a, xs, rfl, sa, qa⟩ := r.tup
      exact ⟨a, xs, rfl, .inr ⟨sa, q _ H' P' st (src_revT (fun H P h => h.pers) sa qa)⟩⟩
    case lst vs =>
      obtain ⟨a, xs, rfl, sa, qa⟩ := r.lst
      exact ⟨a, xs, rfl, .inl ⟨SqL.of sa, q _ H' P' st (src_revL (fun H P h => h.pers) (fun H P h => h.1 _ _ sa) qa)⟩⟩
  loop := fun hb W tg tk => PI.imp (RT.pi_revA hg hm (ha.val W tk) (okSrc.st hs _ _)) fun σ H R q => by
    obtain ⟨env, P, er, q⟩ := q
    have q := ResG.bind q
    have nb : ∀ i, ea ≠ .bor i := fun i z => by subst z; cases hb
    rw [tE_nb nb] at q
    refine ⟨env, P, er, q.map.imp fun p q H' P' x st r => ?_⟩
    have q := ResG.map q
    obtain ⟨P3, st3, g3, r3⟩ := r.rv st
    obtain ⟨v, fr⟩ := p
    cases v <;> first | exact q.elim | skip
    case tup vs =>
      cases r3 with
      | tup sa qa => exact ⟨_, _, rfl, .inr ⟨sa, q _ H' P3 st3 (src_revT (fun H P h => h) sa qa)⟩⟩
    case lst vs =>
      cases r3 with
      | lst pa sa qa => exact ⟨_, _, rfl, .inl ⟨SqL.of sa, q _ H' P3 st3 (src_revL (fun H P h => h) (fun H P h => h.1 _ _ sa (.inl pa)) qa)⟩⟩
end
end G

set_option linter.all false
set_option maxHeartbeats 2000000
set_option maxRecDepth 100000
/-! G6b: comprehensions. -/
namespace G
open PySem PySem.Spec PyProof.Rows L2 HT
theorem pers_upd {H : Hp} {P : Addr → Prop} {D : Addr} {xs : List V} {o : HO} (h : H D = some (.lst xs)) (n : ¬ P D) : Pers P H (upd H D o) := fun a u e q => by
  by_cases hb : a = D
  · subst hb
    rw [h] at e
    cases e
    rcases q with q | q
    · exact absurd q n
    · exact absurd rfl (q xs)
  · rw [upd_ne hb]; exact e
theorem same_upd {H1 H : Hp} {D : Addr} {o : HO} (s : Same H1 H) (n : H1 D = none) : Same H1 (upd H D o) := fun a u e => by
  rw [upd_ne (ne_of_none e n)]
  exact s a u e
theorem noexc_ok' {α : Type} {r : G.R α} {a : α} (h : r.noexc = .ok a) : r = .ok a := by
  cases r <;> first | exact h | cases h
theorem lc_src {K : PySem.W.Frag} {CA : Nat → Option Addr} {H1 : Hp} {H0 : Bs} {P1 : Addr → Prop} {env : Env} {σ : L2.St} (er : ER K CA H0 H1 P1 env σ) {J : L2.It} {its : List Val} (src : Src K CA (SameR H1 P1) J its) {tg : Tg} {c : Env → G.R Bool} {f : Env → G.R Val} {tt : TT} {te : TE}
    (htt : ∀ env' σ' H P (Q : Bool → Hp → Prop) b, ER K CA H0 H P env' σ' → c env' = .ok b → (∀ H' P', Step P H P' H' → Q b H') → tt σ' H Q)
    (hte : ∀ env' σ' H P (Q : VK) v, ER K CA H0 H P env' σ' → f env' = .ok v → (∀ H' P' y, Step P H P' H' → RV K CA H' P' v y → Q y H') → te σ' H Q)
    {vs : List Val} (h : lcLoop tg (wipeE env (tgs tg)) c f its = .ok vs) (hz : lenOk its.length = true) {Q : VK}
    (q : ∀ D H P xs, H1 D = none → Step P1 H1 P H → ¬ P D → H D = some (.lst xs) → RVs K CA H P vs xs → Q (.ref D) H) : ∀ D, H1 D = none →
    ∃ W : Nat → Nat → Hp → Prop, (∃ m, W 0 m (upd H1 D (.lst []))) ∧ ∀ i m H, W i m H → (J.stop i H ∧ Q (.ref D) H) ∨ (J.go i H ∧ ∃ Nx : Hp → Prop, (∀ H', Nx H' → ∃ m', m' < m ∧ W (i + 1) m' H') ∧ ∀ x H', J.yld i H x H' →
      gT K tg x (L2.wipe σ (tgs tg)) H' fun σ2 H2 => L2.wipe σ2 (tgs tg) = L2.wipe σ (tgs tg) ∧ tt σ2 H2 fun b H3 =>
        if b = true then te σ2 H3 fun y H4 => ∃ acc, H4 D = some (.lst acc) ∧ acc.length < sizeLine ∧ Nx (upd H4 D (.lst (acc ++ [y]))) else Nx H3) := by
  intro D hD
  refine ⟨fun i m H => i ≤ its.length ∧ m = its.length - i ∧ ∃ P done acc rest, Step P1 H1 P H ∧ ¬ P D ∧ H D = some (.lst acc) ∧ RVs K CA H P done acc ∧ done.length ≤ i ∧ lcLoop tg (wipeE env (tgs tg)) c f (its.drop i) = .ok rest ∧ done ++ rest = vs, ?_, ?_⟩
  · exact ⟨_, Nat.zero_le _, rfl, P1, [], [], vs, step_new hD er.trk, er.trk.no hD, upd_same, .nil, Nat.le_refl _, by rw [List.drop_zero]; exact h, rfl⟩
  · rintro i m H ⟨hi, rfl, P, done, acc, rest, st, nD, eD, rd, hdl, hl, hv⟩
    by_cases hlt : i < its.length
    · right
      refine ⟨src.go i H P ⟨st.s, st.g.1⟩ hlt, fun H' => i + 1 ≤ its.length ∧ ∃ P done acc rest, Step P1 H1 P H' ∧ ¬ P D ∧ H' D = some (.lst acc) ∧ RVs K CA H' P done acc ∧ done.length ≤ i + 1 ∧ lcLoop tg (wipeE env (tgs tg)) c f (its.drop (i + 1)) = .ok rest ∧ done ++ rest = vs,
        fun H' n => ⟨its.length - (i + 1), by omega, n.1, rfl, n.2⟩, fun x H' hy => ?_⟩
      obtain ⟨rfl, v, hv1, rv⟩ := src.yld i H P x H' ⟨st.s, st.g.1⟩ hlt hy
      have ed : its.drop i = v :: its.drop (i + 1) := by
        rw [List.drop_eq_getElem_cons hlt]
        congr 1
        rw [List.getElem?_eq_getElem hlt] at hv1
        exact Option.some.inj hv1
      rw [ed] at hl
      obtain ⟨env', hb, hl⟩ := R.bind_eq_ok hl
      obtain ⟨b, hc, hl⟩ := R.bind_eq_ok hl
      refine bindT_ok ((er.grow st).wipe (tgs tg)) rv hb fun σ' er' hw => ⟨by rw [hw _ fun _ z => z, wipe_wipe], ?_⟩
      refine htt env' σ' _ P _ b er' hc fun H3 P3 st3 => ?_
      cases b with
      | false =>
        exact ⟨hlt, P3, done, acc, rest, st.trans st3, (fun z => (st3.g.2 D z).elim nD fun e => by rw [eD] at e; cases e), st3.s _ _ eD, rd.mono st3.s st3.g.1, by omega, hl, hv⟩
      | true =>
        have hl : ((f env').bind fun v => (lcLoop tg (wipeE env (tgs tg)) c f (its.drop (i + 1))).bind fun vs => R.ok (v :: vs)) = .ok rest := hl
        obtain ⟨w, hf, hl⟩ := R.bind_eq_ok hl
        obtain ⟨ws, hl2, hl⟩ := R.bind_eq_ok hl
        cases hl
        show te σ' H3 _
        refine hte env' σ' H3 P3 _ w (er'.grow st3) hf fun H4 P4 y st4 ry => ?_
        have nD3 : ¬ P3 D := fun z => (st3.g.2 D z).elim nD fun e => by rw [eD] at e; cases e
        have eD3 := st3.s _ _ eD
        have nD4 : ¬ P4 D := fun z => (st4.g.2 D z).elim nD3 fun e => by rw [eD3] at e; cases e
        have eD4 := st4.s _ _ eD3
        have rd4 := (rd.mono st3.s st3.g.1).mono st4.s st4.g.1
        have pu : Pers P4 H4 (upd H4 D (.lst (acc ++ [y]))) := pers_upd eD4 nD4
        have st' := (st.trans st3).trans st4
        refine ⟨acc, eD4, ?_, hlt, P4, done ++ [w], acc ++ [y], ws, ⟨same_upd st'.s hD, st'.g, fun a z => ?_⟩, nD4, upd_same, (RVs.pers pu (fun _ z => z) _ rd4).append (.cons (RV.pers pu (fun _ z => z) _ ry) .nil), by rw [List.length_append]; show _ + 1 ≤ _; omega, hl2, by rw [List.append_assoc]; exact hv⟩
        · rw [← rd.length]
          have h1 : its.length ≤ sizeLine := LIM_le hz
          omega
        · obtain ⟨ys, e⟩ := st'.t a z
          exact ⟨ys, pu a _ e (.inl z)⟩
    · left
      have ei : i = its.length := by omega
      subst ei
      rw [List.drop_length] at hl
      cases hl
      rw [List.append_nil] at hv
      subst hv
      exact ⟨src.stop H P ⟨st.s, st.g.1⟩, q D H P acc hD st nD eD rd⟩
/-- a clause's one test, or none -/
def PTsOk (CA : Nat → Option Addr) (cl : Nat → List Val → G.R (Val × Bool)) (H0 : Bs) (X : Cx) : List Expr → Option E → Prop
  | [], none => True
  | [src], some e => V3 CA cl H0 X src e
  | _, _ => False
/-- the reading of a test in a block -/
def tC (K : PySem.W.Frag) (CA : Nat → Option Addr) (cl : Nat → List Val → G.R (Val × Bool)) (H0 : Bs) (o : Option E) : TT := match o with
  | none => tYes
  | some e => tT K CA cl H0 (fun _ _ _ _ => False) e
theorem v3_lc {X : Cx} {CA : Nat → Option Addr} {cl : Nat → List Val → G.R (Val × Bool)} {H0 : Bs} {elt tgsrc iter : Expr} {ifs : List Expr} {scope : Scope} {pos : Pos} {tg : Tg} {it : G.It} {cond : Option E} {el : E} {own : List (Str × Nat)}
    (hc : X.calm = true) (hN : X.N.Nodup) (hi : VI CA cl H0 X iter it) (ok : BlkOk X.N X.env.scope scope own) (ho : own.map (·.2) = tgs tg)
    (hg : ∀ (s : Shared) (H : Hp) (C : Addr) (cl : List (Str × Addr)) (fp : List Addr), TgP (X.blk s H scope (compEnvC scope cl C X.env) fp) tgsrc tg)
    (ht : ∀ (s : Shared) (H : Hp) (C : Addr) (cl' : List (Str × Addr)) (fp : List Addr), PTsOk CA cl H0 (X.blk s H scope (compEnvC scope cl' C X.env) fp) ifs cond)
    (he : ∀ (s : Shared) (H : Hp) (C : Addr) (cl' : List (Str × Addr)) (fp : List Addr), V3 CA cl H0 (X.blk s H scope (compEnvC scope cl' C X.env) fp) elt el) :
    (∀ W, Takes X W → ∀ σ H Q, tE X.K CA cl H0 W (.lc tg it cond el) σ H Q → tLc (tI X.K CA cl H0 W SameR it) (gT X.K tg) (tC X.K CA cl H0 cond) (tE X.K CA cl H0 (fun _ _ _ _ => False) el) (own.map (·.2)) σ H Q) ∧
    V3 CA cl H0 X (.ListComp elt [⟨tgsrc, iter, ifs, 0⟩] scope pos) (.lc tg it cond el) := by
  have imp : ∀ W, Takes X W → ∀ σ H Q, tE X.K CA cl H0 W (.lc tg it cond el) σ H Q → tLc (tI X.K CA cl H0 W SameR it) (gT X.K tg) (tC X.K CA cl H0 cond) (tE X.K CA cl H0 (fun _ _ _ _ => False) el) (own.map (·.2)) σ H Q := by
    intro W tk σ H Q q
    obtain ⟨env, P, er, q⟩ := q
    refine ⟨env, P, er, (ResG.bind q).imp fun its q J H1 P1 st src => ?_⟩
    cases hz : lenOk its.length with
    | false => rw [hz] at q; exact q.elim
    | true =>
      rw [hz] at q
      have q : ResG CA H σ W (fun p => Out X.K CA H P p Q) ((lcLoop tg (wipeE env (tgs tg)) (fun env' => (evC cl cond env').noexc) (fun env' => ((evE cl el env').map (·.1)).noexc) its).bind fun vs => .ok (.lst vs, true)) := q
      have ne : ∀ c, lcLoop tg (wipeE env (tgs tg)) (fun env' => (evC cl cond env').noexc) (fun env' => ((evE cl el env').map (·.1)).noexc) its ≠ .exc c := by
        have : ∀ (xs : List Val) (c : Nat), lcLoop tg (wipeE env (tgs tg)) (fun env' => (evC cl cond env').noexc) (fun env' => ((evE cl el env').map (·.1)).noexc) xs ≠ .exc c := by
          intro xs
          induction xs with
          | nil => intro c e; cases e
          | cons x xs ih =>
            intro c e
            unfold lcLoop at e
            have bne : ∀ c, bindT tg (wipeE env (tgs tg)) x ≠ .exc c := by
              intro c e
              have pne : ∀ (is : List Nat) (vs : List Val) (env : Env), putAll env is vs ≠ .exc c := by
                intro is
                induction is with
                | nil => intro vs env e; cases vs <;> cases e
                | cons i is ih => intro vs env e; cases vs with
                  | nil => cases e
                  | cons v vs => exact ih vs _ e
              unfold bindT at e
              split at e
              · cases e
              · split at e
                · split at e
                  · exact pne _ _ _ e
                  · cases e
                · cases e
            cases e1 : bindT tg (wipeE env (tgs tg)) x with
            | exc z => exact bne z e1
            | bad => rw [e1] at e; cases e
            | ok env' =>
              rw [e1] at e
              have e : (((evC cl cond env').noexc).bind fun b => if b then (((evE cl el env').map (·.1)).noexc).bind fun v => (lcLoop tg (wipeE env (tgs tg)) (fun env' => (evC cl cond env').noexc) (fun env' => ((evE cl el env').map (·.1)).noexc) xs).bind fun vs => .ok (v :: vs) else lcLoop tg (wipeE env (tgs tg)) (fun env' => (evC cl cond env').noexc) (fun env' => ((evE cl el env').map (·.1)).noexc) xs) = R.exc c := e
              cases e2 : evC cl cond env' with
              | exc z => rw [e2] at e; cases e
              | bad => rw [e2] at e; cases e
              | ok b =>
                rw [e2] at e
                cases b with
                | false => exact ih c e
                | true =>
                  have e : ((((evE cl el env').map (·.1)).noexc).bind fun v => (lcLoop tg (wipeE env (tgs tg)) (fun env' => (evC cl cond env').noexc) (fun env' => ((evE cl el env').map (·.1)).noexc) xs).bind fun vs => .ok (v :: vs)) = R.exc c := e
                  cases e3 : (evE cl el env').map (·.1) with
                  | exc z => rw [e3] at e; cases e
                  | bad => rw [e3] at e; cases e
                  | ok v =>
                    rw [e3] at e
                    have e : ((lcLoop tg (wipeE env (tgs tg)) (fun env' => (evC cl cond env').noexc) (fun env' => ((evE cl el env').map (·.1)).noexc) xs).bind fun vs => .ok (v :: vs)) = R.exc c := e
                    cases e4 : lcLoop tg (wipeE env (tgs tg)) (fun env' => (evC cl cond env').noexc) (fun env' => ((evE cl el env').map (·.1)).noexc) xs with
                    | exc z => exact ih z e4
                    | bad => rw [e4] at e; cases e
                    | ok vs => rw [e4] at e; cases e
        exact this its
      cases e1 : lcLoop tg (wipeE env (tgs tg)) (fun env' => (evC cl cond env').noexc) (fun env' => ((evE cl el env').map (·.1)).noexc) its with
      | exc c => exact absurd e1 (ne c)
      | bad => rw [e1] at q; exact q.elim
      | ok vs =>
        rw [e1] at q
        have q : Out X.K CA H P (.lst vs, true) Q := q
        rw [ho]
        refine lc_src (er.grow st) src (c := fun env' => (evC cl cond env').noexc) (f := fun env' => ((evE cl el env').map (·.1)).noexc) ?_ ?_ e1 hz fun D H2 P2 xs nD st2 nP eD rv => ?_
        · intro env' σ' H P Q b er' hcb k
          have hcb := noexc_ok' hcb
          cases cond with
          | none =>
            cases hcb
            exact k H P (.refl er'.trk)
          | some e =>
            refine ⟨env', P, er', ?_⟩
            have : evT cl e env' = .ok b := hcb
            rw [this]
            exact fun H' P' st => k H' P' st
        · intro env' σ' H P Q v er' hf k
          have hf := noexc_ok' hf
          refine ⟨env', P, er', ?_⟩
          cases e2 : evE cl el env' with
          | exc c => rw [e2] at hf; cases hf
          | bad => rw [e2] at hf; cases hf
          | ok p =>
            rw [e2] at hf
            cases hf
            intro H' P' y st r
            obtain ⟨P3, st3, g3, r3⟩ := r.rv st
            exact k H' P3 y st3 r3
        · exact q H2 P2 (.ref D) (st.trans st2) (.inr ⟨rfl, D, xs, vs, rfl, rfl, st.s.free nD, eD, nP, rv⟩)
  refine ⟨imp, .of (by intro i z; cases z) rfl fun W tk => ?_⟩
  refine (pe_lc (wi := tI X.K CA cl H0 W SameR it) (g := gT X.K tg) (tt := tC X.K CA cl H0 cond) (te := tE X.K CA cl H0 (fun _ _ _ _ => False) el) hc hN (hi.comp W tgsrc tk) ok (fun s H C cl fp => pg_tg hN hc (hg s H C cl fp)) (fun s H C cl' fp => ?_) (fun s H C cl' fp => (he s H C cl' fp).val _ takes0) (fun x => hi.fs _ x)).imp fun σ H Q q => imp W tk σ H Q q
  have h := ht s H C cl' fp
  match ifs, cond, h with
  | [], none, _ => exact pts_nil
  | [src], some e, h => exact pts_one (h.tst _ takes0)
end G

set_option linter.all false
set_option maxHeartbeats 2000000
set_option maxRecDepth 100000
/-! G7: statements. -/
namespace G
open PySem PySem.Spec PyProof.Rows L2 HT
section
variable {K : PySem.W.Frag} {CA : Nat → Option Addr} {H H1 H' H2 : Hp} {H0 : Bs} {P P1 P' P2 : Addr → Prop} {σ : L2.St} {W : WX} {env : Env} {D : Ends}
/-- what a statement's outcome asks -/
def ResS (K : PySem.W.Frag) (CA : Nat → Option Addr) (H0 : Bs) (H : Hp) (P : Addr → Prop) (W : WX) (D : Ends) (o : O) : Prop := match o with
  | .nx env' => ∀ σ' H' P', PersR H P H' P' → ER K CA H0 H' P' env' σ' → D.nx σ' H'
  | .brk env' => ∀ σ' H' P', PersR H P H' P' → ER K CA H0 H' P' env' σ' → D.bk σ' H'
  | .cnt env' => ∀ σ' H' P', PersR H P H' P' → ER K CA H0 H' P' env' σ' → D.ct σ' H'
  | .ret v fr => Out K CA H0.h H0.p (v, fr) D.rt
  | .exc c env' => ∀ σ' H' P' C, PersR H P H' P' → ER K CA H0 H' P' env' σ' → CA c = some C → W (.ref C) none σ' H'
  | .bad => False
theorem PersR.refl : PersR H P H P := ⟨.refl, fun _ z => z⟩
theorem PersR.trans (a : PersR H P H1 P1) (b : PersR H1 P1 H2 P2) : PersR H P H2 P2 := ⟨a.1.trans b.1 a.2, fun z q => b.2 z (a.2 z q)⟩
theorem Step.persR (st : Step P H P' H') : PersR H P H' P' := ⟨.of_same st.s, st.g.1⟩
theorem ResS.at {o : O} (h : ResS K CA H0 H P W D o) (r : PersR H P H1 P1) : ResS K CA H0 H1 P1 W D o := by
  cases o with
  | nx env' => exact fun σ' H' P' q er => h σ' H' P' (r.trans q) er
  | brk env' => exact fun σ' H' P' q er => h σ' H' P' (r.trans q) er
  | cnt env' => exact fun σ' H' P' q er => h σ' H' P' (r.trans q) er
  | ret v fr => exact h
  | exc c env' => exact fun σ' H' P' C q er => h σ' H' P' C (r.trans q) er
  | bad => exact h
theorem ER.stay (er : ER K CA H0 H P env σ) (s : Same H H') : ER K CA H0 H' P env σ := er.grow ⟨s, .refl, fun a z => by
  obtain ⟨xs, e⟩ := er.trk a z
  exact ⟨xs, s _ _ e⟩⟩
theorem rO_res {α : Type} {r : G.R α} {f : α → O} {env' : Env} (er : ER K CA H0 H P' env' σ) (g : ∀ a, P a → P' a) (h : ResS K CA H0 H P W D (rO env' r f)) : ResG CA H σ W (fun a => ResS K CA H0 H P' W D (f a)) r := by
  cases r with
  | ok a => exact h.at ⟨.refl, g⟩
  | exc c => exact fun H' C s e => h σ H' P' C ⟨.of_same s, g⟩ (er.stay s) e
  | bad => exact h
/-- freezing -/
theorem ER.frz1 (er : ER K CA H0 H P env σ) (i : Nat) : ∃ P', (∀ a, P a → P' a) ∧ ER K CA H0 H P' (frz env i) σ := by
  unfold frz
  split
  · rename_i v o he
    cases o with
    | false =>
      refine ⟨P, fun _ z => z, er.less (by rw [List.length_set]) rfl fun j p h => ⟨?_, rfl⟩⟩
      rcases set_get h with ⟨rfl, e⟩ | ⟨_, h⟩
      · cases e; exact he
      · exact h
    | true =>
      obtain ⟨a, xs, vs, e1, e2, e3, e4, e5, e6⟩ := er.own i v he
      subst e1
      refine ⟨fun b => P b ∨ b = a, fun _ z => .inl z, ?_⟩
      exact {
        ext := er.ext
        gr := ⟨fun b z => .inl (er.gr.1 b z), fun b z => z.elim (er.gr.2 b) fun e => .inr (by rw [e]; exact e5)⟩
        trk := fun b z => z.elim (er.trk b) fun e => by rw [e]; exact ⟨xs, e3⟩
        len := by rw [List.length_set, er.len]
        shr := fun j w h => by
          rcases set_get h with ⟨rfl, e⟩ | ⟨_, h⟩
          · cases e
            exact ⟨_, e2, .lst (.inr rfl) e3 (e6.mono (Same.refl _) fun _ z => .inl z)⟩
          · obtain ⟨x, h1, h2⟩ := er.shr j w h
            exact ⟨x, h1, h2.mono (Same.refl _) fun _ z => .inl z⟩
        own := fun j w h => by
          rcases set_get h with ⟨rfl, e⟩ | ⟨ne, h⟩
          · cases e
          · obtain ⟨b, ys, ws, g1, g2, g3, g4, g5, g6⟩ := er.own j w h
            refine ⟨b, ys, ws, g1, g2, g3, fun z => z.elim g4 fun e => ?_, g5, g6.mono (Same.refl _) fun _ z => .inl z⟩
            subst e
            exact ne (er.dis i j _ _ _ he h e2 g2)
        dis := fun j k w z b h1 h2 => by
          rcases set_get h1 with ⟨rfl, e⟩ | ⟨_, h1⟩
          · cases e
          · rcases set_get h2 with ⟨rfl, e⟩ | ⟨_, h2⟩
            · cases e
            · exact er.dis j k w z b h1 h2 }
  · exact ⟨P, fun _ z => z, er⟩
theorem ER.frz {env : Env} {P : Addr → Prop} (er : ER K CA H0 H P env σ) (is : List Nat) : ∃ P', (∀ a, P a → P' a) ∧ ER K CA H0 H P' (frzAll env is) σ := by
  induction is generalizing env P with
  | nil => exact ⟨P, fun _ z => z, er⟩
  | cons i is ih =>
    obtain ⟨P1, g1, er1⟩ := er.frz1 i
    obtain ⟨P2, g2, er2⟩ := ih er1
    exact ⟨P2, fun a z => g2 a (g1 a z), er2⟩
/-- a result into a slot -/
theorem ER.putR (er : ER K CA H0 H P env σ) (st : Step P H P' H') {i : Nat} {p : Val × Bool} {x : V} (r : RF K CA H H' P' p x) : ER K CA H0 H' P' (G.put env i p.1 p.2) (σ.set i (some x)) := by
  obtain ⟨v, fr⟩ := p
  rcases r with ⟨e, r⟩ | ⟨e, a, xs, vs, e1, e2, h1, h2, h3, h4⟩
  · dsimp only at e r ⊢
    subst e
    exact (er.grow st).put r
  · dsimp only at e e1 ⊢
    subst e e1 e2
    refine (er.grow st).putOwn h2 h3 (er.ext.free h1) h4 fun j b _ o => ?_
    obtain ⟨ys, ws, _, _, g, _⟩ := o.at er
    exact ne_of_none g h1
end
def tS (K : PySem.W.Frag) (CA : Nat → Option Addr) (cl : Nat → List Val → G.R (Val × Bool)) (H0 : Bs) (W : WX) (s : S) : TS := fun D σ H => ∃ env P, ER K CA H0 H P env σ ∧ ResS K CA H0 H P W D (evS cl s env)
def tSs (K : PySem.W.Frag) (CA : Nat → Option Addr) (cl : Nat → List Val → G.R (Val × Bool)) (H0 : Bs) (W : WX) (ss : List S) : TS := fun D σ H => ∃ env P, ER K CA H0 H P env σ ∧ ResS K CA H0 H P W D (evSs cl ss env)
/-- a statement; a block -/
def S3 (CA : Nat → Option Addr) (cl : Nat → List Val → G.R (Val × Bool)) (H0 : Bs) (X : Cx) (src : Stmt) (s : S) : Prop := ∀ W, Takes X W → PS X src (tS X.K CA cl H0 W s)
def Ss3 (CA : Nat → Option Addr) (cl : Nat → List Val → G.R (Val × Bool)) (H0 : Bs) (X : Cx) (srcs : List Stmt) (ss : List S) : Prop := ∀ W, Takes X W → PSs X srcs (tSs X.K CA cl H0 W ss)
/-- no comprehension -/
theorem noComp.sw {e : Expr} (h : noComp e = true) (t : Option Expr) (l : Nat) (env : PySem.Env) : swapsWith e t l env = pure false := by
  cases e <;> first | rfl | cases h
section
variable {X : Cx} {CA : Nat → Option Addr} {cl : Nat → List Val → G.R (Val × Bool)} {H0 : Bs} {src a b c : Expr} {e ea eb ec : E} {pos : Pos}
theorem ss_nil : Ss3 CA cl H0 X [] [] := fun W tk => pss_nil.imp fun D σ H q => by
  obtain ⟨env, P, er, q⟩ := q
  exact q σ H P .refl er
theorem ss_cons {s1 : Stmt} {ss : List Stmt} {t : S} {ts : List S} (h1 : S3 CA cl H0 X s1 t) (h2 : Ss3 CA cl H0 X ss ts) : Ss3 CA cl H0 X (s1 :: ss) (t :: ts) := fun W tk => (pss_cons (h1 W tk) (h2 W tk)).imp fun D σ H q => by
  obtain ⟨env, P, er, q⟩ := q
  refine ⟨env, P, er, ?_⟩
  have q : ResS X.K CA H0 H P W D (match evS cl t env with | .nx env' => evSs cl ts env' | o => o) := q
  cases e1 : evS cl t env with
  | nx env' =>
    rw [e1] at q
    exact fun σ' H' P' r er' => ⟨env', P', er', q.at r⟩
  | brk env' => rw [e1] at q; exact q
  | cnt env' => rw [e1] at q; exact q
  | ret v fr => rw [e1] at q; exact q
  | exc c env' => rw [e1] at q; exact q
  | bad => rw [e1] at q; exact q
theorem s_pass : S3 CA cl H0 X (.Pass pos) .pass := fun W tk => ps_pass.imp fun D σ H q => by
  obtain ⟨env, P, er, q⟩ := q
  exact q σ H P .refl er
/-- the value of an assignment -/
theorem set_imp {W : WX} {i : Nat} {D : Ends} {σ : L2.St} {H : Hp} (q : tS X.K CA cl H0 W (.set i e) D σ H) : tAsg (tE X.K CA cl H0 W e) (gName i) D σ H := by
  obtain ⟨env, P, er, q⟩ := q
  obtain ⟨P1, g1, er1⟩ := er.frz (kept e)
  refine ⟨_, P1, er1, (rO_res er1 g1 q).imp fun p q H' P' x st r => ?_⟩
  exact q _ H' P' st.persR (er1.putR st r)
theorem s_set {i : Nat} {x : Str} {p : Pos} (hN : X.N.Nodup) (hi : X.N[i]? = some x) (hl : Loc X.env.scope x) (hf : X.fn x = true ∨ X.env.scope.names.lookup x = some .local) (hs : noComp a = true) (ha : V3 CA cl H0 X a ea) : S3 CA cl H0 X (.Assign [.Name x p] a pos) (.set i ea) :=
  fun W tk => (ps_set hN hi hl (ha.val W tk) (noComp.sw hs _ _ _) hf).imp fun D σ H q => set_imp q
theorem s_setN {i : Nat} {x : Str} {p : Pos} (hN : X.N.Nodup) (hi : X.N[i]? = some x) (hl : Loc X.env.scope x) (hf : X.fn x = true ∨ X.env.scope.names.lookup x = some .local) (hs : swapsWith a (some (.Name x p)) pos.line X.env = pure false) (ha : V3 CA cl H0 X a ea) : S3 CA cl H0 X (.Assign [.Name x p] a pos) (.set i ea) :=
  fun W tk => (ps_set hN hi hl (ha.val W tk) hs hf).imp fun D σ H q => set_imp q
/-- a, b = .. , not side by side -/
theorem s_unp {is : List Nat} {es : List Expr} {k : Nat} {p : Pos} (hN : X.N.Nodup) (hc : X.calm = true) (ht : TgP X (.Tuple es k p) (.tup is)) (hsw : swappedStores [.Tuple es k p] a X.env = pure none) (hs : noComp a = true) (ha : V3 CA cl H0 X a ea) :
    S3 CA cl H0 X (.Assign [.Tuple es k p] a pos) (.unp is ea) := fun W tk => (ps_asg (ha.val W tk) (pg_tg hN hc ht) (show swapsWithSole [.Tuple es k p] a pos.line X.env = pure false from noComp.sw hs (some (.Tuple es k p)) pos.line X.env) hsw rfl).imp fun D σ H q => by
  obtain ⟨env, P, er, q⟩ := q
  obtain ⟨P1, g1, er1⟩ := er.frz (kept ea)
  refine ⟨_, P1, er1, (rO_res er1 g1 q).imp fun p q H' P' x st r => ?_⟩
  obtain ⟨P3, st3, g3, r3⟩ := r.rv st
  cases e1 : bindT (.tup is) (frzE env ea) p.1 with
  | ok env' =>
    rw [e1] at q
    exact bindT_ok (er1.grow st3) r3 e1 fun σ' er' _ => q σ' H' P3 st3.persR er'
  | exc c => rw [e1] at q; exact q.elim
  | bad => rw [e1] at q; exact q.elim
theorem rvs2 {K : PySem.W.Frag} {H : Hp} {P : Addr → Prop} {v w : Val} {xs : List V} (r : RVs K CA H P [v, w] xs) : ∃ x y, xs = [x, y] ∧ RV K CA H P v x ∧ RV K CA H P w y := by
  cases r with
  | cons r t => cases t with
    | cons r2 t => cases t; exact ⟨_, _, rfl, r, r2⟩
theorem rvs3 {K : PySem.W.Frag} {H : Hp} {P : Addr → Prop} {v w u : Val} {xs : List V} (r : RVs K CA H P [v, w, u] xs) : ∃ x y z, xs = [x, y, z] ∧ RV K CA H P v x ∧ RV K CA H P w y ∧ RV K CA H P u z := by
  cases r with
  | cons r t =>
    obtain ⟨y, z, rfl, r2, r3⟩ := rvs2 t
    exact ⟨_, y, z, rfl, r, r2, r3⟩
/-- a, b = x, y side by side -/
theorem s_par {i j : Nat} {x y : Str} {px py pt pt2 : Pos} {kt k2 : Nat} (hN : X.N.Nodup) (hc : X.calm = true) (hi : X.N[i]? = some x) (hj : X.N[j]? = some y) (hij : i ≠ j) (hx : X.env.scope.names.lookup x = some .local) (hy : X.env.scope.names.lookup y = some .local)
    (hw : swappedStores [.Tuple [.Name x px, .Name y py] kt pt] (.Tuple [a, b] k2 pt2) X.env = pure (some [x, y])) (h : Vs3 CA cl H0 X [a, b] [ea, eb]) :
    S3 CA cl H0 X (.Assign [.Tuple [.Name x px, .Name y py] kt pt] (.Tuple [a, b] k2 pt2) pos) (.par i j ea eb) := fun W tk => (ps_par hc hN hi hj hij hx hy (pa_es tk h) hw).imp fun D σ H q => by
  obtain ⟨env, P, er, q⟩ := q
  obtain ⟨P1, g1, er1⟩ := er.frz (kept ea ++ kept eb)
  have q := rO_res er1 g1 q
  refine ⟨_, P1, er1, q.imp fun vs q H' P' xs st r => ?_⟩
  match vs, q with
  | [v, w], q =>
    have q : ResS X.K CA H0 H P1 W D (if i = j then .bad else .nx (put (put (frzAll env (kept ea ++ kept eb)) i v false) j w false)) := q
    rw [if_neg hij] at q
    obtain ⟨x, y, rfl, r1, r2⟩ := rvs2 r
    exact ⟨x, y, rfl, q _ H' P' st.persR (((er1.grow st).put r1).put r2)⟩
theorem s_par3 {i j l : Nat} {x y z : Str} {px py pz pt pt2 : Pos} {kt k2 : Nat} (hN : X.N.Nodup) (hc : X.calm = true) (hi : X.N[i]? = some x) (hj : X.N[j]? = some y) (hl : X.N[l]? = some z) (hij : i ≠ j) (hil : i ≠ l) (hjl : j ≠ l)
    (hx : X.env.scope.names.lookup x = some .local) (hy : X.env.scope.names.lookup y = some .local) (hz : X.env.scope.names.lookup z = some .local)
    (hw : swappedStores [.Tuple [.Name x px, .Name y py, .Name z pz] kt pt] (.Tuple [a, b, c] k2 pt2) X.env = pure (some [x, y, z])) (h : Vs3 CA cl H0 X [a, b, c] [ea, eb, ec]) :
    S3 CA cl H0 X (.Assign [.Tuple [.Name x px, .Name y py, .Name z pz] kt pt] (.Tuple [a, b, c] k2 pt2) pos) (.par3 i j l ea eb ec) := fun W tk => (ps_par3 hc hN hi hj hl hij hil hjl hx hy hz (pa_es tk h) hw).imp fun D σ H q => by
  obtain ⟨env, P, er, q⟩ := q
  obtain ⟨P1, g1, er1⟩ := er.frz (kept ea ++ kept eb ++ kept ec)
  have q := rO_res er1 g1 q
  refine ⟨_, P1, er1, q.imp fun vs q H' P' xs st r => ?_⟩
  match vs, q with
  | [v, w, u], q =>
    have q : ResS X.K CA H0 H P1 W D (if i = j ∨ i = l ∨ j = l then .bad else .nx (put (put (put (frzAll env (kept ea ++ kept eb ++ kept ec)) i v false) j w false) l u false)) := q
    rw [if_neg (fun z => z.elim hij fun z => z.elim hil hjl)] at q
    obtain ⟨x, y, z, rfl, r1, r2, r3⟩ := rvs3 r
    exact ⟨x, y, z, rfl, q _ H' P' st.persR ((((er1.grow st).put r1).put r2).put r3)⟩
/-- an expression alone -/
theorem s_exp (hs : noComp a = true) (ha : V3 CA cl H0 X a ea) : S3 CA cl H0 X (.Expr a pos) (.exp ea) := fun W tk => (ps_expr (ha.val W tk) (noComp.sw hs _ _ _)).imp fun D σ H q => by
  obtain ⟨env, P, er, q⟩ := q
  obtain ⟨P1, g1, er1⟩ := er.frz (kept ea)
  exact ⟨_, P1, er1, (rO_res er1 g1 q).imp fun p q H' P' x st r => q σ H' P' st.persR (er1.grow st)⟩
/-- return -/
theorem s_retn : S3 CA cl H0 X (.Return none pos) .retn := fun W tk => ps_retN.imp fun D σ H q => by
  obtain ⟨env, P, er, q⟩ := q
  have q : Out X.K CA H0.h H0.p (.non, false) D.rt := q
  exact q H P .non ⟨er.ext, er.gr, er.trk⟩ (.inl ⟨rfl, .non⟩)
theorem s_ret (hn : ∀ i, ea ≠ .nm i) (ha : V3 CA cl H0 X a ea) : S3 CA cl H0 X (.Return (some a) pos) (.ret ea) := fun W tk => (ps_ret (ha.val W tk)).imp fun D σ H q => by
  obtain ⟨env, P, er, q⟩ := q
  obtain ⟨P1, g1, er1⟩ := er.frz (kept ea)
  have e1 : evRet cl ea env = evE cl ea (frzE env ea) := by
    cases ea <;> first | rfl | exact absurd rfl (hn _)
  have q : ResS X.K CA H0 H P W D (rO env (evRet cl ea env) fun p => .ret p.1 p.2) := q
  rw [e1] at q
  refine ⟨_, P1, er1, ?_⟩
  show ResG CA H σ W _ (evE cl ea (frzE env ea))
  cases e2 : evE cl ea (frzE env ea) with
  | ok p =>
    rw [e2] at q
    intro H' P' x st r
    exact q H' P' x ⟨er1.ext.trans st.s, er1.gr.trans er1.ext st.g, st.t⟩ (r.back er1.ext)
  | exc c =>
    rw [e2] at q
    intro H' C s hc
    exact q σ H' P C ⟨.of_same s, fun _ z => z⟩ (er.stay s) hc
  | bad => rw [e2] at q; exact q.elim
/-- a name alone hands over a list of one's own -/
theorem s_retm {i : Nat} {x : Str} {p : Pos} (hN : X.N[i]? = some x) (hv : Vis X.env.scope x) (hd : (x == ("__debug__" : Str)) = false) (hcd : (x == ("__classdict__" : Str)) = false) : S3 CA cl H0 X (.Return (some (.Name x p)) pos) (.ret (.nm i)) := fun W tk => (ps_ret (pe_var hN hv hd hcd)).imp fun D σ H q => by
  obtain ⟨env, P, er, q⟩ := q
  have q : ResS X.K CA H0 H P W D (rO env (evRet cl (.nm i) env) fun p => .ret p.1 p.2) := q
  unfold evRet at q
  dsimp only at q
  split at q
  · rename_i p he
    obtain ⟨v, o⟩ := p
    have q : Out X.K CA H0.h H0.p (v, o) D.rt := q
    have st : Step H0.p H0.h P H := ⟨er.ext, er.gr, er.trk⟩
    cases o with
    | false =>
      obtain ⟨y, h1, h2⟩ := er.shr i v he
      exact ⟨y, h1, q H P y st (.inl ⟨rfl, h2⟩)⟩
    | true =>
      obtain ⟨b, xs, vs, h1, h2, h3, h4, h5, h6⟩ := er.own i v he
      exact ⟨_, h2, q H P _ st (.inr ⟨rfl, b, xs, vs, h1, rfl, h5, h3, h4, h6⟩)⟩
  · exact q.elim
/-- if -/
theorem s_if {s1 s2 : List Stmt} {t1 t2 : List S} (hc : V3 CA cl H0 X c ec) (h1 : Ss3 CA cl H0 X s1 t1) (h2 : Ss3 CA cl H0 X s2 t2) : S3 CA cl H0 X (.If c s1 s2 pos) (.ifs ec t1 t2) := fun W tk => (ps_if (hc.tst W tk) (h1 W tk) (h2 W tk)).imp fun D σ H q => by
  obtain ⟨env, P, er, q⟩ := q
  obtain ⟨P1, g1, er1⟩ := er.frz (kept ec)
  refine ⟨_, P1, er1, (rO_res er1 g1 q).imp fun k q H' P' st => ?_⟩
  cases k with
  | true => exact ⟨_, P', er1.grow st, q.at st.persR⟩
  | false => exact ⟨_, P', er1.grow st, q.at st.persR⟩
/-- raise C('..') -/
theorem s_rse (T : CFs X.K CA) (hc : X.calm = true) {x m : Str} {j k : Nat} {p p2 p3 : Pos} {C : Addr} (hC : CA k = some C) (gC : X.mg x = some (.ref C)) (hg : Gl X x) (hdb : (x == ("__debug__" : Str)) = false) :
    S3 CA cl H0 X (.Raise (some (.Call (.Name x p) [.Constant (.str m) j p2] [] p3)) none pos) (.rse k) := fun W tk => by
  obtain ⟨C0, h0, hF⟩ := T.base
  have F := hF k C hC
  refine (ps_raise hc tk (pmk_own PySem.F.excBase_ValueError F.made gC F.kp (raises_own F.ex.hs F.ty) hg hdb)).imp fun D σ H q => ?_
  obtain ⟨env, P, er, q⟩ := q
  exact q σ H P C .refl er hC
end
end G

set_option linter.all false
set_option maxHeartbeats 2000000
set_option maxRecDepth 100000
/-! G7b: lists changed in place, loops. -/
namespace G
open PySem PySem.Spec PyProof.Rows L2 HT
section
variable {K : PySem.W.Frag} {CA : Nat → Option Addr} {H H1 H' H2 : Hp} {H0 : Bs} {P P1 P' P2 : Addr → Prop} {σ : L2.St} {W : WX} {env : Env} {D : Ends}
/-- a list of one's own is written -/
theorem ER.wrt (er : ER K CA H0 H P env σ) {i : Nat} {a : Addr} (o : OwnAt env σ i a) {vs' : List Val} {xs' : List V} (r : RVs K CA H P vs' xs') : ER K CA H0 (upd H a (.lst xs')) P (G.put env i (.lst vs') true) σ ∧ PersR H P (upd H a (.lst xs')) P := by
  obtain ⟨xs, vs, e1, e2, e3, e4, e5, e6⟩ := o.at er
  have pu : Pers P H (upd H a (.lst xs')) := pers_upd e3 e4
  have hl : i < env.length := (List.getElem?_eq_some_iff.mp e1).1
  have old : ∀ (j : Nat) p, (G.put env i (.lst vs') true)[j]? = some (some p) → (i = j ∧ p = (.lst vs', true)) ∨ (i ≠ j ∧ env[j]? = some (some p)) := fun j p h => by
    rcases set_get h with ⟨e, h⟩ | h
    · cases h; exact .inl ⟨e, rfl⟩
    · exact .inr h
  refine ⟨{
    ext := same_upd er.ext e5
    gr := er.gr
    trk := fun b z => by
      obtain ⟨ys, e⟩ := er.trk b z
      exact ⟨ys, pu b _ e (.inl z)⟩
    len := by unfold G.put; rw [List.length_set]; exact er.len
    shr := fun j w h => by
      rcases old j _ h with ⟨_, e⟩ | ⟨_, h⟩
      · cases e
      · obtain ⟨x, h1, h2⟩ := er.shr j w h
        exact ⟨x, h1, RV.pers pu (fun _ z => z) w h2⟩
    own := fun j w h => by
      rcases old j _ h with ⟨rfl, e⟩ | ⟨ne, h⟩
      · cases e
        exact ⟨a, xs', vs', rfl, e2, upd_same, e4, e5, RVs.pers pu (fun _ z => z) _ r⟩
      · obtain ⟨b, ys, ws, g1, g2, g3, g4, g5, g6⟩ := er.own j w h
        have hb : b ≠ a := fun z => by
          subst z
          exact ne (er.dis i j _ _ _ e1 h e2 g2)
        exact ⟨b, ys, ws, g1, g2, by rw [upd_ne hb]; exact g3, g4, g5, RVs.pers pu (fun _ z => z) _ g6⟩
    dis := fun j k w z b h1 h2 s1 s2 => by
      rcases old j _ h1 with ⟨rfl, _⟩ | ⟨_, h1⟩
      · rcases old k _ h2 with ⟨e, _⟩ | ⟨_, h2⟩
        · exact e
        · exact er.dis i k _ _ b e1 h2 s1 s2
      · rcases old k _ h2 with ⟨rfl, _⟩ | ⟨_, h2⟩
        · exact er.dis j i _ _ b h1 e1 s1 s2
        · exact er.dis j k _ _ b h1 h2 s1 s2 }, ⟨pu, fun _ z => z⟩⟩
theorem ownL_ok {i : Nat} {vs : List Val} (er : ER K CA H0 H P env σ) (h : ownL env i = .ok vs) : ∃ a xs, OwnAt env σ i a ∧ σ[i]? = some (some (.ref a)) ∧ H a = some (.lst xs) ∧ RVs K CA H P vs xs := by
  unfold ownL at h
  split at h
  · rename_i ws he
    cases h
    obtain ⟨a, xs, ws', e1, e2, e3, e4, e5, e6⟩ := er.own i _ he
    cases e1
    exact ⟨a, xs, ⟨⟨_, he⟩, e2⟩, e2, e3, e6⟩
  · cases h
theorem ownL_ne {i : Nat} (c : Nat) : ownL env i ≠ .exc c := by
  intro h
  unfold ownL at h
  split at h <;> cases h
end
section
variable {X : Cx} {CA : Nat → Option Addr} {cl : Nat → List Val → G.R (Val × Bool)} {H0 : Bs} {src a b c : Expr} {e ea eb ec : E} {pos : Pos}
/-- x.append(e) -/
theorem s_app {i : Nat} {x : Str} {px pa pc : Pos} (hN : X.N[i]? = some x) (hv : Vis X.env.scope x) (hd : (x == ("__debug__" : Str)) = false) (hcd : (x == ("__classdict__" : Str)) = false) (hline : (pa.endLine == pc.line) = true) (hs : okSrc a = true) (ha : V3 CA cl H0 X a ea) :
    S3 CA cl H0 X (.Expr (.Call (.Attribute (.Name x px) "append" pa) [a] [] pc) pos) (.app i ea) := fun W tk =>
  (ps_expr (pe_bm PySem.F.plainAttrs_list PySem.F.slot_list_append PySem.F.type_list_append mt_append (pe_var hN hv hd hcd) (pa_cons (ha.val W tk) pa_nil (okSrc.st hs _ _)) rfl (by rw [okSrc.st hs]; rfl) hline (okSrc.st hs _ _) rfl)).imp fun D σ H q => by
    obtain ⟨env, P, er, q⟩ := q
    obtain ⟨P1, g1, er1⟩ := er.frz (kept ea)
    have q := rO_res er1 g1 q
    cases e1 : ownL (frzE env ea) i with
    | exc z => exact absurd e1 (ownL_ne _)
    | bad => rw [e1] at q; exact q.elim
    | ok vs =>
      rw [e1] at q
      obtain ⟨ad, xs, o, hσ, hH, hr⟩ := ownL_ok er1 e1
      refine ⟨.ref ad, hσ, .inl ⟨rfl, xs, SqL.of hH⟩, _, P1, er1, (rO_res er1 (fun _ z => z) q).imp fun p q H' P' y st r => ?_⟩
      obtain ⟨P3, st3, g3, r3⟩ := r.rv st
      have er3 := er1.grow st3
      cases hl : lenOk (vs.length + 1) with
      | false => rw [hl] at q; exact q.elim
      | true =>
        rw [hl] at q
        have h3 := st3.s _ _ hH
        have r4 := hr.mono st3.s st3.g.1
        obtain ⟨er4, pr⟩ := er3.wrt o (r4.append (.cons r3 .nil))
        refine ⟨ad, xs, y, rfl, rfl, h3, ?_, q _ _ P3 (st3.persR.trans pr) er4⟩
        rw [← r4.length]
        exact LIM_lt hl
/-- x.reverse() -/
theorem s_rev {i : Nat} {x : Str} {px pa pc : Pos} (hN : X.N[i]? = some x) (hv : Vis X.env.scope x) (hd : (x == ("__debug__" : Str)) = false) (hcd : (x == ("__classdict__" : Str)) = false) (hline : (pa.endLine == pc.line) = true) :
    S3 CA cl H0 X (.Expr (.Call (.Attribute (.Name x px) "reverse" pa) [] [] pc) pos) (.rev i) := fun W tk =>
  (ps_expr (pe_bm0 PySem.F.plainAttrs_list PySem.F.slot_list_reverse PySem.F.type_list_reverse mt_reverse (pe_var hN hv hd hcd) rfl hline)).imp fun D σ H q => by
    obtain ⟨env, P, er, q⟩ := q
    have q := rO_res er (fun _ z => z) q
    cases e1 : ownL env i with
    | exc z => exact absurd e1 (ownL_ne _)
    | bad => rw [e1] at q; exact q.elim
    | ok vs =>
      rw [e1] at q
      obtain ⟨ad, xs, o, hσ, hH, hr⟩ := ownL_ok er e1
      obtain ⟨er4, pr⟩ := er.wrt o hr.reverse
      exact ⟨.ref ad, hσ, .inl ⟨rfl, xs, SqL.of hH⟩, ad, xs, rfl, rfl, hH, q _ _ P pr er4⟩
theorem last_get {α : Type} {l : List α} (h : l.isEmpty = false) : ∃ y, l[l.length - 1]? = some y ∧ l.getLast? = some y := by
  cases l with
  | nil => cases h
  | cons a l =>
    have hl : (a :: l).length - 1 < (a :: l).length := by simp
    exact ⟨_, List.getElem?_eq_getElem hl, by rw [List.getLast?_eq_getElem?, List.getElem?_eq_getElem hl]⟩
/-- x.pop() -/
theorem s_pop {i : Nat} {x : Str} {px pa pc : Pos} (hN : X.N[i]? = some x) (hv : Vis X.env.scope x) (hd : (x == ("__debug__" : Str)) = false) (hcd : (x == ("__classdict__" : Str)) = false) (hline : (pa.endLine == pc.line) = true) :
    S3 CA cl H0 X (.Expr (.Call (.Attribute (.Name x px) "pop" pa) [] [] pc) pos) (.pop i) := fun W tk =>
  (ps_expr (pe_bm0 PySem.F.plainAttrs_list PySem.F.slot_list_pop PySem.F.type_list_pop mt_pop (pe_var hN hv hd hcd) rfl hline)).imp fun D σ H q => by
    obtain ⟨env, P, er, q⟩ := q
    have q := rO_res er (fun _ z => z) q
    cases e1 : ownL env i with
    | exc z => exact absurd e1 (ownL_ne _)
    | bad => rw [e1] at q; exact q.elim
    | ok vs =>
      rw [e1] at q
      obtain ⟨ad, xs, o, hσ, hH, hr⟩ := ownL_ok er e1
      obtain ⟨er4, pr⟩ := er.wrt o hr.dropLast
      have q : ResS X.K CA H0 H P W D (if vs.isEmpty then .bad else .nx (put env i (.lst vs.dropLast) true)) := q
      cases he : vs.isEmpty with
      | true => rw [he] at q; exact q.elim
      | false =>
        rw [he] at q
        have hx : xs.isEmpty = false := by
          cases hr with
          | nil => cases he
          | cons _ _ => rfl
        obtain ⟨y, hy, _⟩ := last_get hx
        exact ⟨.ref ad, hσ, .inl ⟨rfl, xs, SqL.of hH⟩, ad, xs, y, rfl, rfl, hH, hy, q _ _ P pr er4⟩
/-- a, b = x.pop() -/
theorem s_popu {i : Nat} {is : List Nat} {es : List Expr} {k : Nat} {p px pa pc : Pos} {x : Str} (nd : X.N.Nodup) (hc : X.calm = true) (ht : TgP X (.Tuple es k p) (.tup is)) (hN : X.N[i]? = some x) (hv : Vis X.env.scope x) (hd : (x == ("__debug__" : Str)) = false) (hcd : (x == ("__classdict__" : Str)) = false) (hline : (pa.endLine == pc.line) = true) :
    S3 CA cl H0 X (.Assign [.Tuple es k p] (.Call (.Attribute (.Name x px) "pop" pa) [] [] pc) pos) (.popu is i) := fun W tk =>
  (ps_asg (pe_bm0 PySem.F.plainAttrs_list PySem.F.slot_list_pop PySem.F.type_list_pop mt_pop (pe_var hN hv hd hcd) rfl hline) (pg_tg nd hc ht) rfl rfl rfl).imp fun D σ H q => by
    obtain ⟨env, P, er, q⟩ := q
    have q := rO_res er (fun _ z => z) q
    cases e1 : ownL env i with
    | exc z => exact absurd e1 (ownL_ne _)
    | bad => rw [e1] at q; exact q.elim
    | ok vs =>
      rw [e1] at q
      obtain ⟨ad, xs, o, hσ, hH, hr⟩ := ownL_ok er e1
      obtain ⟨er4, pr⟩ := er.wrt o hr.dropLast
      cases he : vs.getLast? with
      | none =>
        have q : ResS X.K CA H0 H P W D (match vs.getLast? with | some v => (if i ∈ is then .bad else match bindT (.tup is) (put env i (.lst vs.dropLast) true) v with | .ok env' => .nx env' | _ => .bad) | none => .bad) := q
        rw [he] at q; exact q.elim
      | some v =>
        have q : ResS X.K CA H0 H P W D (match vs.getLast? with | some v => (if i ∈ is then .bad else match bindT (.tup is) (put env i (.lst vs.dropLast) true) v with | .ok env' => .nx env' | _ => .bad) | none => .bad) := q
        rw [he] at q
        dsimp only at q
        split at q
        · exact q.elim
        · have hv1 : vs[vs.length - 1]? = some v := by rw [← List.getLast?_eq_getElem?]; exact he
          obtain ⟨y, hy, ry⟩ := hr.get hv1
          refine ⟨.ref ad, hσ, .inl ⟨rfl, xs, SqL.of hH⟩, ad, xs, y, rfl, rfl, hH, by rw [← hr.length]; exact hy, ?_⟩
          have ry2 := RV.pers pr.1 (fun _ z => z) v ry
          cases e2 : bindT (.tup is) (put env i (.lst vs.dropLast) true) v with
          | ok env' =>
            rw [e2] at q
            exact bindT_ok er4 ry2 e2 fun σ' er' _ => q σ' _ P pr er'
          | exc c => rw [e2] at q; exact q.elim
          | bad => rw [e2] at q; exact q.elim
theorem ixPut_ne (xs : List Val) (k : Int) (v : Val) (c : Nat) : ixPut xs k v ≠ .exc c := by
  intro h
  unfold ixPut at h
  split at h <;> cases h
/-- x[k] = e -/
theorem s_six {i : Nat} {x : Str} {px pa : Pos} (hN : X.N[i]? = some x) (hv : Vis X.env.scope x) (hd : (x == ("__debug__" : Str)) = false) (hcd : (x == ("__classdict__" : Str)) = false)
    (hsl : ∀ v, assign (.Subscript (.Name x px) b pa) X.env v = (do
      let ov ← holding [v] (eval (.Name x px) X.env)
      let iv ← holding [v, ov] (eval b X.env)
      standAt pa
      holding [v, ov, iv] (setItem ov iv v)
      release [v, ov, iv] [])) (hs : noComp a = true) (ha : V3 CA cl H0 X a ea) (hb : V3 CA cl H0 X b eb) :
    S3 CA cl H0 X (.Assign [.Subscript (.Name x px) b pa] a pos) (.six i eb ea) := fun W tk =>
  (ps_asg (ha.val W tk) (pg_sub (pe_var hN hv hd hcd) (hb.opd W tk) set_list hsl) (show swapsWithSole [.Subscript (.Name x px) b pa] a pos.line X.env = pure false from noComp.sw hs (some (.Subscript (.Name x px) b pa)) pos.line X.env) rfl rfl).imp fun D σ H q => by
    obtain ⟨env, P, er, q⟩ := q
    obtain ⟨P1, g1, er1⟩ := er.frz (kept ea)
    refine ⟨_, P1, er1, (rO_res er1 g1 q).imp fun p q H' P' y st r => ?_⟩
    obtain ⟨P3, st3, g3, r3⟩ := r.rv st
    have er3 := er1.grow st3
    have q := rO_res er3 (fun _ z => z) (q.at st3.persR)
    cases e1 : ownL (frzE env ea) i with
    | exc z => exact absurd e1 (ownL_ne _)
    | bad => rw [e1] at q; exact q.elim
    | ok vs =>
      rw [e1] at q
      obtain ⟨ad, xs, o, hσ, hH, hr⟩ := ownL_ok er3 e1
      refine ⟨.ref ad, hσ, _, P3, er3, (rO_res er3 (fun _ z => z) q).bind.imp fun kv q H4 P4 z st4 r4 => ?_⟩
      cases kv <;> first | exact q.elim | skip
      rename_i k
      have q : ResS X.K CA H0 H' P3 W D (rO (frzE env ea) (ixPut vs k p.fst) fun ys => O.nx (put (frzE env ea) i (Val.lst ys) true)) := q
      cases r4.int
      have er4 := er3.grow st4
      have q := rO_res er4 (fun _ z => z) (q.at st4.persR)
      have hr4 := hr.mono st4.s st4.g.1
      have e2' : ixPut vs k p.1 = match ixN vs.length k with | some j => .ok (vs.set j p.1) | none => .bad := rfl
      cases e2 : ixN vs.length k with
      | none => rw [e2', e2] at q; exact q.elim
      | some j =>
        rw [e2', e2] at q
        obtain ⟨er5, pr⟩ := er4.wrt o (hr4.set (r3.mono st4.s st4.g.1) j)
        exact ⟨ad, xs, k, j, rfl, rfl, st4.s _ _ hH, by rw [← hr4.length]; exact e2, q _ _ P4 pr er5⟩
/-- name = [.. for ..] -/
theorem s_setLc {i : Nat} {y : Str} {py : Pos} {elt tgsrc iter : Expr} {ifs : List Expr} {scope : Scope} {p : Pos} {tg : Tg} {it : G.It} {cond : Option E} {el : E} {own : List (Str × Nat)}
    (hc : X.calm = true) (hN : X.N.Nodup) (hy : X.N[i]? = some y) (hyl : X.env.scope.names.lookup y = some .local) (hsw : swapsWith (.ListComp elt [⟨tgsrc, iter, ifs, 0⟩] scope p) (some (.Name y py)) pos.line X.env = pure true)
    (hi : VI CA cl H0 X iter it) (ok : BlkOk X.N X.env.scope scope own) (ho : own.map (·.2) = tgs tg)
    (hg : ∀ (s : Shared) (H : Hp) (C : Addr) (cl : List (Str × Addr)) (fp : List Addr), TgP (X.blk s H scope (compEnvC scope cl C X.env) fp) tgsrc tg)
    (ht : ∀ (s : Shared) (H : Hp) (C : Addr) (cl' : List (Str × Addr)) (fp : List Addr), PTsOk CA cl H0 (X.blk s H scope (compEnvC scope cl' C X.env) fp) ifs cond)
    (he : ∀ (s : Shared) (H : Hp) (C : Addr) (cl' : List (Str × Addr)) (fp : List Addr), V3 CA cl H0 (X.blk s H scope (compEnvC scope cl' C X.env) fp) elt el) :
    S3 CA cl H0 X (.Assign [.Name y py] (.ListComp elt [⟨tgsrc, iter, ifs, 0⟩] scope p) pos) (.set i (.lc tg it cond el)) := fun W tk => by
  refine (ps_setLc (wi := tI X.K CA cl H0 W SameR it) (g := gT X.K tg) (tt := G.tC X.K CA cl H0 cond) (te := tE X.K CA cl H0 (fun _ _ _ _ => False) el) hc hN hy hyl hsw (hi.comp W tgsrc tk) ok (fun s H C cl fp => pg_tg hN hc (hg s H C cl fp)) (fun s H C cl' fp => ?_) (fun s H C cl' fp => (he s H C cl' fp).val _ takes0) (fun x => hi.fs _ x)).imp fun D σ H q => ?_
  · have h := ht s H C cl' fp
    match ifs, cond, h with
    | [], none, _ => exact pts_nil
    | [src], some e, h => exact pts_one (h.tst _ takes0)
  · exact (v3_lc (pos := p) hc hN hi ok ho hg ht he).1 W tk σ H _ (set_imp q)
/-! ### loops -/
theorem whl_spec {c : Env → G.R Bool} {b : Env → O} {env : Env} : whl c b env = .bad ∨ ∃ n, whlN c b n env = some (whl c b env) := by
  unfold whl
  split
  · rename_i h
    exact .inr ⟨_, Classical.choose_spec (Classical.choose_spec h)⟩
  · exact .inl rfl
theorem s_whl {body : List Stmt} {bs : List S} (hp : PassesOwn (model X.prog X.w) X.A X.env X.xe) (hc : V3 CA cl H0 X c ec) (hb : Ss3 CA cl H0 X body bs) : S3 CA cl H0 X (.While c body [] pos) (.whl ec bs) := fun W tk => (ps_while hp (hc.tst W tk) (hb W tk)).imp fun D σ H q => by
  obtain ⟨env, P, er, q⟩ := q
  obtain ⟨P1, g1, er1⟩ := er.frz (kept ec)
  have q : ResS X.K CA H0 H P W D (whl (fun env' => evT cl ec env') (fun env' => evSs cl bs env') (frzE env ec)) := q
  rcases whl_spec (c := fun env' => evT cl ec env') (b := fun env' => evSs cl bs env') (env := frzE env ec) with e | ⟨n, hn⟩
  · rw [e] at q; exact q.elim
  · refine ⟨fun m σ H => ∃ env P o, ER X.K CA H0 H P env σ ∧ whlN (fun env' => evT cl ec env') (fun env' => evSs cl bs env') m env = some o ∧ ResS X.K CA H0 H P W D o, ⟨n, _, P1, _, er1, hn, q.at ⟨.refl, g1⟩⟩, ?_⟩
    rintro m σ H ⟨env, P, o, er, hm, q⟩
    cases m with
    | zero => cases hm
    | succ m =>
      refine ⟨env, P, er, ?_⟩
      cases e1 : evT cl ec env with
      | exc x =>
        have hm : (some (O.exc x env)) = some o := by have h := hm; simp only [whlN, e1] at h; exact h
        cases hm
        exact fun H' C s hC => q σ H' P C ⟨.of_same s, fun _ z => z⟩ (er.stay s) hC
      | bad =>
        have hm : (some O.bad) = some o := by have h := hm; simp only [whlN, e1] at h; exact h
        cases hm
        exact q
      | ok k =>
        intro H1 P1 st
        cases k with
        | false =>
          have hm : (some (O.nx env)) = some o := by have h := hm; simp only [whlN, e1] at h; exact h
          cases hm
          exact q σ H1 P1 st.persR (er.grow st)
        | true =>
          refine ⟨fun σ' H' => ∃ env P o, ER X.K CA H0 H' P env σ' ∧ whlN (fun env' => evT cl ec env') (fun env' => evSs cl bs env') m env = some o ∧ ResS X.K CA H0 H' P W D o, fun σ' H' h => ⟨m, Nat.lt_succ_self m, h⟩, env, P1, er.grow st, ?_⟩
          have hm : (match evSs cl bs env with | .nx env' => whlN (fun env' => evT cl ec env') (fun env' => evSs cl bs env') m env' | .cnt env' => whlN (fun env' => evT cl ec env') (fun env' => evSs cl bs env') m env' | .brk env' => some (.nx env') | o => some o) = some o := by have h := hm; simp only [whlN, e1] at h; exact h
          have q := q.at st.persR
          cases e2 : evSs cl bs env with
          | nx env' => rw [e2] at hm; exact fun σ' H' P' r er' => ⟨env', P', o, er', hm, q.at r⟩
          | cnt env' => rw [e2] at hm; exact fun σ' H' P' r er' => ⟨env', P', o, er', hm, q.at r⟩
          | brk env' => rw [e2] at hm; cases hm; exact q
          | ret v fr => rw [e2] at hm; cases hm; exact q
          | exc c env' => rw [e2] at hm; cases hm; exact q
          | bad => rw [e2] at hm; cases hm; exact q
theorem s_for {tgsrc iter : Expr} {tg : Tg} {it : G.It} {body : List Stmt} {bs : List S} (hp : PassesOwn (model X.prog X.w) X.A X.env X.xe) (hN : X.N.Nodup) (hc : X.calm = true) (ht : TgP X tgsrc tg) (hi : VI CA cl H0 X iter it) (hb : Ss3 CA cl H0 X body bs) :
    S3 CA cl H0 X (.For tgsrc iter body [] pos) (.for tg it bs) := fun W tk => by
  by_cases hbi : borI it = true
  · refine (ps_never (X := X)).imp fun D σ H q => ?_
    obtain ⟨env, P, er, q⟩ := q
    have q : ResS X.K CA H0 H P W D (if borI it then .bad else rO (frzI env it) (evIt cl it (frzI env it)) fun xs => forL tg (fun env' => evSs cl bs env') xs (frzI env it)) := q
    rw [hbi] at q
    exact q
  have hbi : borI it = false := by simpa using hbi
  refine (ps_for hp hc (hi.loop hbi W tgsrc tk) (pg_tg hN hc ht) (hb W tk) (fun x => hi.fs _ x)).imp fun D σ H q => ?_
  obtain ⟨env, P, er, q⟩ := q
  obtain ⟨P1, g1, er1⟩ := er.frz (keptI it)
  have q : ResS X.K CA H0 H P W D (if borI it then .bad else rO (frzI env it) (evIt cl it (frzI env it)) fun xs => forL tg (fun env' => evSs cl bs env') xs (frzI env it)) := q
  rw [hbi] at q
  refine ⟨_, P1, er1, (rO_res er1 g1 q).imp fun its q J H1 P2 st src => ?_⟩
  refine ⟨fun i m σ H => i ≤ its.length ∧ m = its.length - i ∧ ∃ env P, PersR H1 P2 H P ∧ ER X.K CA H0 H P env σ ∧ ResS X.K CA H0 H P W D (forL tg (fun env' => evSs cl bs env') (its.drop i) env), ⟨_, Nat.zero_le _, rfl, _, P2, .refl, er1.grow st, by rw [List.drop_zero]; exact q.at st.persR⟩, ?_⟩
  rintro i m σ H ⟨hi, rfl, env, P, pr, er, q⟩
  by_cases hlt : i < its.length
  · right
    refine ⟨src.go i H P pr hlt, fun σ' H' => i + 1 ≤ its.length ∧ ∃ env P, PersR H1 P2 H' P ∧ ER X.K CA H0 H' P env σ' ∧ ResS X.K CA H0 H' P W D (forL tg (fun env' => evSs cl bs env') (its.drop (i + 1)) env), fun σ' H' n => ⟨its.length - (i + 1), by omega, n.1, rfl, n.2⟩, fun x H' hy => ?_⟩
    obtain ⟨rfl, v, hv, rv⟩ := src.yld i H P x H' pr hlt hy
    have ed : its.drop i = v :: its.drop (i + 1) := by
      rw [List.drop_eq_getElem_cons hlt]
      congr 1
      rw [List.getElem?_eq_getElem hlt] at hv
      exact Option.some.inj hv
    rw [ed] at q
    have q : ResS X.K CA H0 H' P W D (match bindT tg env v with | .ok env1 => (match evSs cl bs env1 with | .nx env' => forL tg (fun env' => evSs cl bs env') (its.drop (i + 1)) env' | .cnt env' => forL tg (fun env' => evSs cl bs env') (its.drop (i + 1)) env' | .brk env' => .nx env' | o => o) | _ => .bad) := q
    cases e1 : bindT tg env v with
    | exc c => rw [e1] at q; exact q.elim
    | bad => rw [e1] at q; exact q.elim
    | ok env1 =>
      rw [e1] at q
      dsimp only at q
      refine bindT_ok er rv e1 fun σ' er' _ => ⟨env1, P, er', ?_⟩
      cases e2 : evSs cl bs env1 with
      | nx env' => rw [e2] at q; exact fun σ' H2 P' r er' => ⟨hlt, env', P', pr.trans r, er', q.at r⟩
      | cnt env' => rw [e2] at q; exact fun σ' H2 P' r er' => ⟨hlt, env', P', pr.trans r, er', q.at r⟩
      | brk env' => rw [e2] at q; exact q
      | ret v fr => rw [e2] at q; exact q
      | exc c env' => rw [e2] at q; exact q
      | bad => rw [e2] at q; exact q
  · left
    have ei : i = its.length := by omega
    subst ei
    rw [List.drop_length] at q
    exact ⟨src.stop H P pr, q σ H P .refl er⟩
end
end G

set_option linter.all false
set_option maxHeartbeats 2000000
set_option maxRecDepth 100000
/-! G7c: try .. except X as n; the caught error is tracked. -/
namespace G
open PySem PySem.Spec PyProof.Rows L2 HT
section
variable {X : Cx} {pins : List (Addr × Obj)} {σ : L2.St} {H : Hp} {s : Shared}
/-- an object that is no frame's, no cell's, no pin's, and new since the entry, is tracked -/
theorem Inv.track {a : Addr} {o : HO} (I : Inv X pins σ H s) (na : H a = none) (hs0 : X.s_0.heap.get? a = none) (nL : a ≠ X.env.locals) (nc : ∀ x c, X.env.cells.lookup x = some c → c ≠ a) (np : ∀ p ∈ X.pn ++ pins, p.1 ≠ a) (new : ObjOk X.prog X.w (upd H a o) s.heap a o) :
    Inv X pins σ (upd H a o) s where
  ok := I.ok
  os := I.os
  bare := I.bare
  base := {
    keep := I.base.keep
    slot := I.base.slot
    free := fun b u q n hx => by
      have hb : b ≠ a := fun z => by subst z; rw [hs0] at q; cases q
      rw [upd_ne hb]; exact I.base.free b u q n hx
    there := I.base.there
    tups := fun b xs q => by
      have e := I.base.tups b xs q
      rw [upd_ne (ne_of_none e na)]; exact e
    frzs := fun b ob xs q => by
      have e := I.base.frzs b ob xs q
      rw [upd_ne (ne_of_none e na)]; exact e
    tbls := fun b ps q => by
      obtain ⟨m, e⟩ := I.base.tbls b ps q
      exact ⟨m, by rw [upd_ne (ne_of_none e na)]; exact e⟩ }
  loc := I.loc
  cell := I.cell
  free := by rw [upd_ne nL.symm]; exact I.free
  freeC := fun x c h => by rw [upd_ne (nc x c h)]; exact I.freeC x c h
  pin := fun p hp => by
    obtain ⟨h1, h2, h3⟩ := I.pin p hp
    exact ⟨h1, by rw [upd_ne (np p hp)]; exact h2, h3⟩
  hok := HOk.laidN I.hok (fun _ _ z => z) na new
  len := I.len
theorem _root_.L2.Inv.suiteG (I : Inv X pins σ H s) (a : Addr) : Inv (X.suite a (X.pn ++ pins)) [] σ H s :=
  ⟨I.ok.suite _ _, I.os, I.bare, I.base, I.loc, I.cell, I.free, I.freeC, fun p hp => I.pin p (by
    have hp' : p ∈ (X.pn ++ pins) ++ [] := hp
    rw [List.append_nil] at hp'; exact hp'), I.hok, I.len⟩
theorem _root_.L2.Inv.unsuiteG {a : Addr} {pn' : List (Addr × Obj)} (I : Inv (X.suite a (X.pn ++ pins)) pn' σ H s) (ok : X.Ok) : Inv X pins σ H s :=
  ⟨ok, I.os, I.bare, I.base, I.loc, I.cell, I.free, I.freeC, fun p hp => I.pin p (List.mem_append_left _ hp), I.hok, I.len⟩
end
/-- what the clause wishes of an exception of the body: slot i is the name's -/
def wG (K : PySem.W.Frag) (c : Value) (i : Nat) (ts : TS) (Wout : WX) (D : Ends) : WX := fun cls d σ H =>
  ∃ b, PySem.W.exmOne K cls c = some b ∧ (b = true → d = none ∧ ∀ a, H a = none → ts { nx := fun σ' H' => D.nx (σ'.set i none) H', rt := D.rt, bk := fun σ' H' => D.bk (σ'.set i none) H', ct := fun σ' H' => D.ct (σ'.set i none) H' } (σ.set i (some (.ref a))) (upd H a (ExT cls a))) ∧
    (b = false → Wout cls d σ H)
theorem ps_try_G {X : Cx} {x n : Str} {c : Value} {i : Nat} {body suite : List Stmt} {b₀ : Stmt} {np pos pos' : Pos} {tb : WX → TS} {ts : TS} {Wout : WX} (hs : X.stack = X.env :: X.outer) (hf : X.env.frame = some X.env.locals) (hex : X.ex = []) (hN : X.N.Nodup) (hi : X.N[i]? = some n) (hln : X.env.kindOf n = some .local) (hc : Names X x c) (tk : Takes X Wout)
    (hb : ∀ (W : WX) (pn : List (Addr × Obj)) (xe : Value → Shared → Prop), Takes (X.tr pn xe) W → PassesOwn (model X.prog X.w) X.A X.env xe → PSs (X.tr pn xe) body (tb W))
    (hsu : ∀ (a : Addr) (pn : List (Addr × Obj)), PSs (X.suite a pn) (b₀ :: suite) ts) :
    PS X (.Try body [.ExceptHandler (some (.Name x np)) (some n) (b₀ :: suite) pos'] [] [] pos) (fun D σ H => tb (wG X.K c i ts Wout D) D σ H) := by
  refine ⟨fun pins s σ H D I h => ?_⟩
  have ok := I.ok
  have hfr : X.A.frames = some (X.env :: X.outer) := by rw [ok.frames, hs]
  have hloc : Loc X.env.scope n := .inl hln
  refine wpAny_Try_except ?_
  refine wpAny_mono ((hb (wG X.K c i ts Wout D) (X.pn ++ pins) (fun e s₁ => wpAny (model X.prog X.w) X.A (noteFrame e X.env) (fun _ s₂ => wpAny (model X.prog X.w) X.A (setFlight e none) (fun _ s₃ =>
    wpAny (model X.prog X.w) X.A (handleBy e X.env [.ExceptHandler (some (.Name x np)) (some n) (b₀ :: suite) pos']) (SP X pins D) X.xe s₃) X.xe s₂) X.xe s₁) (fun u s' xx => ?_) PassesOwn.looking).run [] s σ H D (I.toTry _) h) (fun f s1 hsp => ?_) (fun e s1 he => he)
  · -- the catch
    obtain ⟨a, B, sI, pins', σ', H', cls, d, rfl, J', nb, up, sky, na, os, ag, b, hb1, hyes, hno⟩ := xx
    have J : Inv X pins σ' H' sI := J'.ofTry ok
    have sky' : Sky B (X.env :: X.outer) a (Zc cls d) X.env.locals s'.heap := by rw [← hs]; exact sky
    show wpAny (model X.prog X.w) X.A (noteFrame (.ref a) X.env) _ _ _
    refine Sky.land Zc.steady hfr hf sky' fun h3 fl3 up3 => ?_
    have J3 : Inv X pins σ' H' { s' with heap := h3 } := J.landed nb fl3.1 (up.trans up3) os ag
    obtain ⟨oe3, vs3, he3, hz3, hd3⟩ := fl3.there
    have notFr : ∀ {h : Heap} {o : Obj} {vs : Array Value}, h.FunFrames B (X.env :: X.outer) → h.get? a = some o → o.data = .fields vs → a ∉ frs (X.env :: X.outer) := fun {h o vs} ff e dd hm => by
      obtain ⟨_, o', e', hnf⟩ := ff.mem hm
      rw [e] at e'; cases e'
      exact hnf _ dd
    have nfr := notFr fl3.2.2.1 he3 hd3
    have nL : a ≠ X.env.locals := fun z => nfr (List.mem_filterMap.mpr ⟨X.env, List.mem_cons_self, by rw [hf, z]⟩)
    have nF : a ∉ X.fs := fun hm => by
      obtain ⟨e, he, q⟩ := List.mem_filterMap.mp hm
      exact nfr (List.mem_filterMap.mpr ⟨e, List.mem_cons_of_mem _ he, q⟩)
    have nB : B.get? a = none := fl3.2.1
    have nI : sI.heap.get? a = none := by
      cases e : sI.heap.get? a with
      | none => rfl
      | some o =>
        have := nb a o e (by rw [hs]; exact nfr)
        rw [nB] at this; cases this
    have n0 : X.s_0.heap.get? a = none := by
      cases e : X.s_0.heap.get? a with
      | none => rfl
      | some o =>
        obtain ⟨o', e'⟩ := J.base.there a o e (by rw [hex]; exact List.not_mem_nil)
        rw [nI] at e'; cases e'
    have npin : ∀ p ∈ X.pn ++ pins, p.1 ≠ a := fun p hp z => by
      obtain ⟨h1, _⟩ := J.pin p hp
      rw [z, nI] at h1; cases h1
    have ncell : ∀ x c, X.env.cells.lookup x = some c → c ≠ a := fun x c h z => by
      obtain ⟨v, o, h1, h2⟩ := J.cell x c h
      rw [z, nI] at h1; cases h1
    refine wpAny_handleBy_cons (codeAny_handlers_test ?_) (by intro q; cases q)
    have LT : PySem.W.Looks (model X.prog X.w) h3 (typeOf (.ref a)) cls := fun A Q E s k q => wpAny_typeOf_ref (k _ _ he3) (by rw [hz3.1]; exact q)
    have LM := PySem.W.exm_one (M := model X.prog X.w) (J3.kIn) LT hb1
    have S3 := J3.suiteG a
    have test : ∀ {Q : Value → Shared → Prop} {E : Value → Shared → Prop}, Q c { s' with heap := h3 } → wpAny (model X.prog X.w) (X.A.mark (some (.ref a))) (eval (.Name x np) X.env) Q E { s' with heap := h3 } := fun {Q E} q => by
      obtain ⟨hg, hdbg, hm | ⟨hm, hv, hnn⟩⟩ := hc
      · exact ld_glob (X := X.suite a (X.pn ++ pins)) S3 hg hm q hdbg
      · exact ld_blt (X := X.suite a (X.pn ++ pins)) S3 hg hm hv q hnn hdbg
    refine test (LM.here ?_)
    cases b with
    | true =>
      obtain ⟨hd0, hyes2⟩ := hyes rfl
      subst hd0
      refine codeAny_handlers_suite_as ?_
      refine HandSPX.lands_againZ fl3 fun h4 fl4 up4 => ?_
      have J4 : Inv X pins σ' H' { s' with heap := h4 } := J.landed nb fl4.1 ((up.trans up3).trans up4) os ag
      obtain ⟨oe4, vs4, he4, hz4, hd4⟩ := fl4.there
      have oke : ObjOk X.prog X.w (upd H' a (ExT cls a)) h4 a (ExT cls a) := ⟨⟨oe4, vs4, he4, hz4, hd4⟩, ⟨oe4, he4⟩, fun h1 h2 ⟨oe, vs, e, z, dd⟩ k => ⟨oe, vs, k _ e, z, dd⟩⟩
      have J5 : Inv X pins σ' (upd H' a (ExT cls a)) { s' with heap := h4 } := Inv.track J4 na n0 nL ncell npin oke
      have S4 := J5.suiteG a
      refine store_ok (X := X.suite a (X.pn ++ pins)) (v := .ref a) S4 hN hi hloc rfl (fun s5 S5 => ?_) (.inr hln)
      refine wpAny_mono ((hsu a (X.pn ++ pins)).run [] s5 _ _ _ S5 (hyes2 a na)) (fun f s6 hsp => ?_) (fun _ _ z => False.elim z)
      have end_ : ∀ {σ6 : L2.St} {H6 : Hp} {Q : Shared → Prop}, Inv (X.suite a (X.pn ++ pins)) [] σ6 H6 s6 → (∀ s7, Inv X pins (σ6.set i none) H6 s7 → Q s7) →
          wpAny (model X.prog X.w) X.A (do bindName X.env n .none; unbindBehindTheSuite X.env n pos') (fun _ s7 => Q s7) X.xe s6 := fun {σ6 H6 Q} S6 hq => gone_ok (S6.unsuiteG ok) hN hi hln hq
      cases f with
      | next =>
        obtain ⟨σ6, H6, S6, q6⟩ := hsp
        exact end_ S6 fun s7 J7 => ⟨_, _, J7, q6⟩
      | brk =>
        obtain ⟨σ6, H6, S6, q6⟩ := hsp
        exact end_ S6 fun s7 J7 => ⟨_, _, J7, q6⟩
      | cont =>
        obtain ⟨σ6, H6, S6, q6⟩ := hsp
        exact end_ S6 fun s7 J7 => ⟨_, _, J7, q6⟩
      | ret u =>
        obtain ⟨v6, σ6, H6, S6, r6, q6⟩ := hsp
        exact end_ S6 fun s7 J7 => ⟨_, _, _, J7, r6, q6⟩
    | false =>
      show wpAny _ X.A (handleBy (.ref a) X.env []) _ _ _
      refine wpAny_handleBy_nil ?_
      obtain ⟨k1, k2, k3, oe, vs, T, oT, ts', he, hz, hd, h1, hr⟩ := id fl3
      unfold PySem.passOn
      refine wpAny_bind (wpAny_field he hd h1 ?_)
      rw [if_neg (show ¬ ((Value.ref T == Value.none) = true) from by simp)]
      have fin : wpAny (model X.prog X.w) X.A (setFlight (.ref a) X.env.frame) (fun _ s4 => wpAny (model X.prog X.w) X.A (throw (.ref a) : Sem Flow) (SP X pins D) X.xe s4) X.xe { s' with heap := h3 } := by
        rw [hf]
        refine HandSPX.setFlight_upZ fl3 fun h4 hh4 up4 => wpAny_throw (tk _ _ ?_)
        exact ⟨a, B, sI, pins, σ', H', cls, d, rfl, J, nb, (up.trans up3).trans up4, .inr (.inr (by rw [hs]; exact hh4)), na, os, ag, hno rfl⟩
      first
        | exact wpAny_bind (wpAny_pure (wpAny_bind fin))
        | exact wpAny_bind fin
  · cases f with
    | next =>
      obtain ⟨σ', H', J', q⟩ := hsp
      exact wpAny_execs_nil ⟨σ', H', J'.ofTry ok, q⟩
    | brk =>
      obtain ⟨σ', H', J', q⟩ := hsp
      exact ⟨σ', H', J'.ofTry ok, q⟩
    | cont =>
      obtain ⟨σ', H', J', q⟩ := hsp
      exact ⟨σ', H', J'.ofTry ok, q⟩
    | ret u =>
      obtain ⟨v, σ', H', J', r, q⟩ := hsp
      exact ⟨v, σ', H', J'.ofTry ok, r, q⟩

theorem CFs.exm {K : PySem.W.Frag} {CA : Nat → Option Addr} (T : CFs K CA) {c d : Nat} {C D : Addr} (hc : CA c = some C) (hd : CA d = some D) : PySem.W.exmOne K (.ref C) (.ref D) = some (excSub c d) := by
  obtain ⟨C0, h0, hF⟩ := T.base
  have FC := hF c C hc
  have FD := hF d D hd
  unfold PySem.W.exmOne
  rw [if_pos (by rw [FD.ex.hs]; rfl)]
  have h1 := T.one hc hd
  unfold PySem.W.kitOne at h1
  by_cases e : c = d
  · subst e
    rw [hc] at hd
    cases hd
    show (if ((PySem.W.clsIn K C).isSome && PySem.W.typeIn K (.ref C) == some (.type "type")) = true then PySem.W.subIn K (.ref C) (.ref C) else none) = _
    rw [if_pos FC.isC, FC.sub]
    congr 1
    have : excSub c c = true := by simp [excSub]
    rw [this, List.contains_eq_mem]
    refine decide_eq_true ?_
    split <;> simp
  · have hne : C ≠ D := fun z => e (T.inj c d C hc (by rw [z]; exact hd))
    rw [if_neg (by simpa using hne)] at h1
    exact h1
section
variable {X : Cx} {CA : Nat → Option Addr} {cl : Nat → List Val → G.R (Val × Bool)} {H0 : Bs} {pos : Pos}
theorem s_try (T : CFs X.K CA) {x n : Str} {k i : Nat} {C : Addr} {body suite : List Stmt} {b₀ : Stmt} {np pos' : Pos} {bs hs' : List S} (hs : X.stack = X.env :: X.outer) (hf : X.env.frame = some X.env.locals) (hex : X.ex = []) (hN : X.N.Nodup) (hi : X.N[i]? = some n) (hln : X.env.kindOf n = some .local)
    (hC : CA k = some C) (gC : X.mg x = some (.ref C)) (hg : Gl X x) (hdb : (x == ("__debug__" : Str)) = false)
    (hb : ∀ (pn : List (Addr × Obj)) (xe : Value → Shared → Prop), PassesOwn (model X.prog X.w) X.A X.env xe → Ss3 CA cl H0 (X.tr pn xe) body bs)
    (hsu : ∀ (a : Addr) (pn : List (Addr × Obj)), Ss3 CA cl H0 (X.suite a pn) (b₀ :: suite) hs') :
    S3 CA cl H0 X (.Try body [.ExceptHandler (some (.Name x np)) (some n) (b₀ :: suite) pos'] [] [] pos) (.trya bs k i hs') := fun W tk => by
  refine (ps_try_G (c := .ref C) (tb := fun W' => tSs X.K CA cl H0 W' bs) (ts := tSs X.K CA cl H0 (fun _ _ _ _ => False) hs') (Wout := W) hs hf hex hN hi hln ⟨hg, hdb, .inl gC⟩ tk (fun W' pn xe tk' po => hb pn xe po W' tk') (fun a pn => hsu a pn _ takes0)).imp fun D σ H q => ?_
  obtain ⟨env, P, er, q⟩ := q
  have q : ResS X.K CA H0 H P W D (match evSs cl bs env with
    | .exc x env' => if excSub x k then (match evSs cl hs' (put env' i (.exc x) false) with
      | .nx env2 => .nx (env2.set i none)
      | .ret v fr => .ret v fr
      | _ => .bad) else .exc x env'
    | o => o) := q
  refine ⟨env, P, er, ?_⟩
  cases e1 : evSs cl bs env with
  | nx env' => rw [e1] at q; exact q
  | brk env' => rw [e1] at q; exact q
  | cnt env' => rw [e1] at q; exact q
  | ret v fr => rw [e1] at q; exact q
  | bad => rw [e1] at q; exact q
  | exc z env' =>
    rw [e1] at q
    dsimp only at q
    intro σ' H' P' Z pr er' hZ
    refine ⟨excSub z k, T.exm hZ hC, fun hb => ⟨rfl, fun a na => ?_⟩, fun hb => ?_⟩
    · rw [if_pos hb] at q
      have sa : Same H' (upd H' a (ExT (.ref Z) a)) := same_new na
      have pr2 : PersR H' P' (upd H' a (ExT (.ref Z) a)) P' := ⟨.of_same sa, fun _ z => z⟩
      have er2 : ER X.K CA H0 (upd H' a (ExT (.ref Z) a)) P' (put env' i (.exc z) false) (σ'.set i (some (.ref a))) := (er'.stay sa).put (.exc hZ upd_same)
      refine ⟨_, P', er2, ?_⟩
      cases e2 : evSs cl hs' (put env' i (.exc z) false) with
      | nx env2 =>
        rw [e2] at q
        intro σ6 H6 P6 pr6 er6
        refine q (σ6.set i none) H6 P6 ((pr.trans pr2).trans pr6) (er6.less (List.length_set ..) (List.length_set ..) fun j p h => ?_)
        rcases set_get h with ⟨_, e⟩ | ⟨ne, h⟩
        · cases e
        · exact ⟨h, List.getElem?_set_ne ne⟩
      | ret v fr => rw [e2] at q; exact q
      | brk env2 => rw [e2] at q; exact q.elim
      | cnt env2 => rw [e2] at q; exact q.elim
      | exc c env2 => rw [e2] at q; exact q.elim
      | bad => rw [e2] at q; exact q.elim
    · rw [if_neg (by rw [hb]; exact Bool.false_ne_true)] at q
      exact q σ' H' P' Z pr er' hZ
end
end G

set_option linter.all false
set_option maxHeartbeats 2000000
set_option maxRecDepth 100000
/-! G8a: from the text to the evaluator's syntax. -/
namespace G
open PySem PySem.Spec PyProof.Rows L2 HT
/-- what the names of the text stand for -/
structure TC where
  fns : List (Str × (Nat × Nat))
  csts : List (Str × Val)
  cls : List (Str × Nat)
  bor : List Nat
def visB (sc : Scope) (x : Str) : Bool := match sc.names.lookup x with
  | some .local => true
  | some .cell => true
  | some .free => true
  | _ => false
def locB (sc : Scope) (x : Str) : Bool := match sc.names.lookup x with
  | some .local => true
  | some .cell => true
  | _ => false
def glB (sc : Scope) (x : Str) : Bool := decide (sc.names.lookup x = some .globalImplicit)
def dbgB (x : Str) : Bool := !(x == ("__debug__" : Str)) && !(x == ("__classdict__" : Str))
def bopOf : Operator → Option BOp
  | .Add => some .add
  | .Sub => some .sub
  | .Mult => some .mul
  | .FloorDiv => some .fdiv
  | .Mod => some .mod
  | .Pow => some .pow
  | .BitAnd => some .band
  | .RShift => some .shr
  | _ => none
def copOf : CmpOp → Option COp
  | .Lt => some .lt
  | .LtE => some .le
  | .Gt => some .gt
  | .GtE => some .ge
  | .Eq => some .eq
  | .NotEq => some .ne
  | _ => none
def bfOf (x : Str) (n : Nat) : Option Bf :=
  if x = "len" then some .len else if x = "abs" then some .abs else if x = "int" then some .int else if x = "list" then some .list else if x = "tuple" then some .tuple
  else if x = "max" then (if n = 2 then some .max2 else some .maxL) else if x = "min" then (if n = 2 then some .min2 else some .minL) else none
/-- the built-in names that the text may use -/
def bltNames : List Str := ["len", "abs", "int", "list", "tuple", "max", "min", "isinstance", "range", "reversed", "ValueError", "bool", "str"]
def tyNames : List (Str × String) := [("int", "int"), ("bool", "bool"), ("tuple", "tuple"), ("list", "list"), ("str", "str"), ("ValueError", "ValueError")]
def trL {α β : Type} (f : α → Option β) : List α → Option (List β)
  | [] => some []
  | s :: ss => (f s).bind fun e => (trL f ss).bind fun es => some (e :: es)
def og {α : Type} (b : Bool) (o : Option α) : Option α := if b then o else none
section
variable (T : TC) (N : List Str)
def slot (x : Str) : Option Nat := N.findIdx? (· == x)
def trCl (sc : Scope) : Expr → Option Cl
  | .Name x _ => og (glB sc x && dbgB x) (match T.cls.lookup x with
    | some k => some (.own k)
    | none => (tyNames.lookup x).map .ty)
  | _ => none
/-- a lent name -/
def lend : E → E
  | .nm i => .bor i
  | e => e
def trTg (sc : Scope) : Expr → Option Tg
  | .Name x _ => og (locB sc x) ((slot N x).map .one)
  | .Tuple es _ _ => (trL (fun e => match e with | .Name x _ => og (locB sc x) (slot N x) | _ => none) es).map .tup
  | _ => none
def isRev : Expr → Bool
  | .UnaryOp .USub (.Constant (.int 1) _ _) _ => true
  | _ => false
def bools (f : E → E → E) : List E → Option E
  | [] => none
  | [a] => some a
  | a :: b :: r => (bools f (b :: r)).map (f a)
def trIt (tr : Expr → Option E) (ld : Bool) (sc : Scope) (src : Expr) : Option It := match src with
  | .Call (.Name f _) args [] _ => if f = "range" then og (glB sc f) (match args with
      | [a] => (tr a).map fun e => .rng1 (lend e)
      | [a, b] => (tr a).bind fun ea => (tr b).map fun eb => .rng2 (lend ea) (lend eb)
      | _ => none)
    else if f = "reversed" then og (glB sc f) (match args with
      | [a] => (tr a).map fun e => .rvd (if ld then lend e else e)
      | _ => none)
    else (tr src).map fun e => .val (if ld then lend e else e)
  | e => (tr e).map fun e => .val (if ld then lend e else e)
def trE : Nat → Bool → Bool → Scope → Expr → Option E
  | 0, _, _, _, _ => none
  | n + 1, c, top, sc, src => match src with
    | .Name x _ => og (dbgB x) (match slot N x with
      | some i => og (visB sc x) (some (.nm i))
      | none => og (glB sc x) ((T.csts.lookup x).map .cst))
    | .Constant (.int i) _ _ => some (.cst (.int i))
    | .Constant (.str s) _ _ => some (.cst (.str s))
    | .Constant (.bool b) _ _ => some (.cst (.bl b))
    | .Constant .none _ _ => some (.cst .non)
    | .BinOp a op b _ => (bopOf op).bind fun o => (trE n c top sc a).bind fun ea => (trE n c top sc b).bind fun eb => some (.bin o (lend ea) (lend eb))
    | .UnaryOp .USub a _ => (trE n c top sc a).bind fun ea => some (.neg (lend ea))
    | .UnaryOp .Not a _ => (trE n c top sc a).bind fun ea => some (.not (lend ea))
    | .BoolOp op vs _ => og (decide (2 ≤ vs.length)) ((trL (fun s => (trE n c top sc s).map lend) vs).bind fun es => bools (match op with | .And => .and | .Or => .or) es)
    | .Compare a [.Is] [.Constant .none _ _] _ => (trE n c top sc a).bind fun ea => some (.isn false (lend ea))
    | .Compare a [.IsNot] [.Constant .none _ _] _ => (trE n c top sc a).bind fun ea => some (.isn true (lend ea))
    | .Compare a [.In] [b] _ => (trE n c top sc a).bind fun ea => (trE n c top sc b).bind fun eb => some (.inn false (lend ea) (lend eb))
    | .Compare a [.NotIn] [b] _ => (trE n c top sc a).bind fun ea => (trE n c top sc b).bind fun eb => some (.inn true (lend ea) (lend eb))
    | .Compare a [op] [b] _ => (copOf op).bind fun o => (trE n c top sc a).bind fun ea => (trE n c top sc b).bind fun eb => some (.cmp o (lend ea) (lend eb))
    | .Compare a [op, op'] [b, d] _ => (copOf op).bind fun o => (copOf op').bind fun o' => (trE n c top sc a).bind fun ea => (trE n c top sc b).bind fun eb => (trE n c top sc d).bind fun ed => some (.chn o o' (lend ea) (lend eb) (lend ed))
    | .IfExp d a b _ => (trE n c top sc d).bind fun ed => (trE n c top sc a).bind fun ea => (trE n c top sc b).bind fun eb => some (.ifx (lend ed) ea eb)
    | .Subscript a (.Slice none none (some (.UnaryOp .USub (.Constant (.int 1) _ _) _)) _) _ => (trE n c top sc a).bind fun ea => some (.rev (lend ea))
    | .Subscript a (.Slice lo hi none _) _ => (trE n c top sc a).bind fun ea => (match lo with | none => some none | some l => (trE n c top sc l).map fun e => some (lend e)).bind fun el => (match hi with | none => some none | some l => (trE n c top sc l).map fun e => some (lend e)).bind fun eh => some (.slc (lend ea) el eh)
    | .Subscript a b _ => (trE n c top sc a).bind fun ea => (trE n c top sc b).bind fun eb => some (.ix (lend ea) (lend eb))
    | .Tuple es _ _ => og (lenOk es.length) ((trL (trE n c top sc) es).map .tup)
    | .List es _ => og (lenOk es.length) ((trL (trE n c top sc) es).map .lst)
    | .Call (.Name f _) args [] _ => og (glB sc f && dbgB f) (
      if f = "isinstance" then (match args with
        | [a, .Tuple cs _ _] => og (lenOk cs.length) ((trE n c top sc a).bind fun ea => (trL (trCl T sc) cs).bind fun ds => some (.isi (lend ea) ds))
        | [a, b] => (trE n c top sc a).bind fun ea => (trCl T sc b).bind fun d => some (.isi (lend ea) [d])
        | _ => none)
      else match T.fns.lookup f with
        | some (k, np) => og (c && decide (args.length = np)) ((trL (fun s => (trE n c top sc s).map (if k ∈ T.bor then lend else id)) args).map (.call k))
        | none => og (c && !args.isEmpty) ((bfOf f args.length).bind fun bf => (trL (fun s => (trE n c top sc s).map lend) args).map (.blt bf)))
    | .ListComp elt [⟨tgs, it, ifs, 0⟩] scope _ => og (c && top) ((trIt (trE n true true sc) true sc it).bind fun i => (trTg N scope tgs).bind fun tg => (trE n c false scope elt).bind fun el =>
        (match ifs with | [] => some none | [d] => (trE n c false scope d).map fun e => some (lend e) | _ => none).bind fun cond =>
        og (blkC N sc scope ((G.tgs tg).map fun j => (N.getD j Str.empty, j))) (some (.lc tg i cond el)))
    | .Call (.Attribute (.Name x px) m pa) [.Constant (.bool k) _ _] [] pc => og (pa.endLine == pc.line) ((trE n c top sc (.Name x px)).bind fun ea => if m = "count" then some (.blt .cnt [lend ea, .cst (.bl k)]) else if m = "index" then some (.blt .idx [lend ea, .cst (.bl k)]) else none)
    | _ => none
/-! ### statements -/
def cutSw (ts vs : List Expr) (sc : Scope) : Option (Option (List Str)) :=
  if !(ts.length == 2 || ts.length == 3) || vs.length != ts.length then some none
  else if vs.any (fun | .Starred .. => true | _ => false) then some none
  else
    let line := (ts.head?.map (·.pos.line)).getD 0
    let names := ts.filterMap fun
      | .Name id pos => if sc.names.lookup id == some .local && pos.line == line then some id else none
      | _ => none
    if names.length != ts.length || names.eraseDups.length != names.length then some none
    else if vs.all (foldedForSure 8) then some none
    else if vs.all (constantsAlone 8) then none
    else some (some names)
def swB (sc : Scope) (y : Str) (py p : Pos) (scope : Scope) : Bool :=
  decide (sc.names.lookup y = some .local) && (py.line == p.line) && !(scope.names.any fun (n, k) => n == y && (k == .local || k == .cell))
def isSl : Expr → Bool
  | .Slice _ _ _ _ => true
  | _ => false
def trS : Nat → Bool → Scope → Stmt → Option S
  | 0, _, _, _ => none
  | n + 1, c, sc, src => match src with
    | .Pass _ => some .pass
    | .Return none _ => some .retn
    | .Return (some e) _ => (trE T N n c true sc e).bind fun ea => match ea with
      | .nm i => (match e with
        | .Name x _ => og (decide (slot N x = some i) && visB sc x && dbgB x) (some (.ret (.nm i)))
        | _ => none)
      | ea => some (.ret ea)
    | .Assign [.Name y py] (.ListComp elt gs scope p) pos => og (c && (swB sc y py p scope || decide (sc.names.lookup y = some .cell))) ((slot N y).bind fun i => (trE T N n c true sc (.ListComp elt gs scope p)).map (.set i))
    | .Assign [.Name y _] e _ => og (locB sc y && noComp e) ((slot N y).bind fun i => (trE T N n c true sc e).map (.set i))
    | .Assign [.Tuple ts k p] (.Tuple vs k2 p2) _ => og c ((cutSw ts vs sc).bind fun r => match r with
      | none => (trTg N sc (.Tuple ts k p)).bind fun tg => match tg with
        | .tup is => (trE T N n c true sc (.Tuple vs k2 p2)).map (.unp is)
        | _ => none
      | some _ => match ts, vs with
        | [.Name x _, .Name y _], [a, b] => (slot N x).bind fun i => (slot N y).bind fun j => (trE T N n c true sc a).bind fun ea => (trE T N n c true sc b).bind fun eb => og (decide (i ≠ j)) (some (.par i j ea eb))
        | [.Name x _, .Name y _, .Name z _], [a, b, d] => (slot N x).bind fun i => (slot N y).bind fun j => (slot N z).bind fun l => (trE T N n c true sc a).bind fun ea => (trE T N n c true sc b).bind fun eb => (trE T N n c true sc d).bind fun ed => og (decide (i ≠ j) && decide (i ≠ l) && decide (j ≠ l)) (some (.par3 i j l ea eb ed))
        | _, _ => none)
    | .Assign [.Tuple ts k p] (.Call (.Attribute (.Name x _) m pa) [] [] pc) _ => og (c && decide (m = "pop") && (pa.endLine == pc.line) && visB sc x && dbgB x) ((trTg N sc (.Tuple ts k p)).bind fun tg => match tg with
        | .tup is => (slot N x).map (.popu is)
        | _ => none)
    | .Assign [.Tuple ts k p] e _ => og (c && noComp e) ((trTg N sc (.Tuple ts k p)).bind fun tg => match tg with
        | .tup is => (trE T N n c true sc e).map (.unp is)
        | _ => none)
    | .Assign [.Subscript (.Name x _) b _] e _ => og (visB sc x && dbgB x && noComp e && !isSl b) ((slot N x).bind fun i => (trE T N n c true sc b).bind fun eb => (trE T N n c true sc e).map fun ee => .six i (lend eb) ee)
    | .Expr (.Call (.Attribute (.Name x _) m pa) args [] pc) _ => og ((pa.endLine == pc.line) && visB sc x && dbgB x) ((slot N x).bind fun i => match args with
        | [] => if m = "pop" then some (.pop i) else if m = "reverse" then some (.rev i) else none
        | [a] => if m = "append" then (trE T N n c true sc a).map (.app i) else none
        | _ => none)
    | .Expr e _ => og (noComp e) ((trE T N n c true sc e).map .exp)
    | .If d a b _ => (trE T N n c true sc d).bind fun ed => (trL (trS n c sc) a).bind fun ea => (trL (trS n c sc) b).map fun eb => .ifs (lend ed) ea eb
    | .While d b [] _ => (trE T N n c true sc d).bind fun ed => (trL (trS n c sc) b).map fun eb => .whl (lend ed) eb
    | .For tgs it b [] _ => og c ((trIt (trE T N n true true sc) false sc it).bind fun i => (trTg N sc tgs).bind fun tg => (trL (trS n c sc) b).map fun eb => .for tg i eb)
    | .Raise (some (.Call (.Name x _) [.Constant (.str _) _ _] [] _)) none _ => og (c && glB sc x && dbgB x) ((T.cls.lookup x).map .rse)
    | .Try b [.ExceptHandler (some (.Name x _)) (some nm) (h₀ :: h) _] [] [] _ => og (c && glB sc x && dbgB x && decide (sc.names.lookup nm = some .local)) ((T.cls.lookup x).bind fun k => (slot N nm).bind fun i => (trL (trS n c sc) b).bind fun eb => (trL (trS n false sc) (h₀ :: h)).map fun eh => .trya eb k i eh)
    | _ => none
end
end G

set_option linter.all false
set_option maxHeartbeats 4000000
set_option maxRecDepth 100000
/-! G8b: what the translation says holds: expressions. -/
namespace G
open PySem PySem.Spec PyProof.Rows L2 HT
theorem bopOf_ok {o : Operator} {b : BOp} (h : bopOf o = some b) : o = opOf b := by cases o <;> cases h <;> rfl
theorem copOf_ok {o : CmpOp} {b : COp} (h : copOf o = some b) : o = cpOf b := by cases o <;> cases h <;> rfl
theorem bfOf_ok {x : Str} {n : Nat} {f : Bf} (h : bfOf x n = some f) : x = bfN f ∧ bfFn f = true := by
  unfold bfOf at h
  repeat' split at h
  all_goals first | (cases h; exact ⟨by assumption, rfl⟩) | cases h
theorem bfN_mem (f : Bf) : bfN f ∈ bltNames := by cases f <;> decide
theorem trL_ok {α β : Type} {f : α → Option β} {R : α → β → Prop} (h : ∀ s e, f s = some e → R s e) : ∀ {ss : List α} {es : List β}, trL f ss = some es → Paired R ss es
  | [], _, e => by cases e; exact .nil
  | s :: ss, es, e => by
    obtain ⟨a, h1, e⟩ := Option.bind_eq_some_iff.mp e
    obtain ⟨as, h2, e⟩ := Option.bind_eq_some_iff.mp e
    cases e
    exact .cons (h s a h1) (trL_ok h h2)
theorem og_ok {α : Type} {b : Bool} {o : Option α} {a : α} (h : og b o = some a) : b = true ∧ o = some a := by
  unfold og at h
  split at h
  · exact ⟨by assumption, h⟩
  · cases h
theorem bnd_ok {α β : Type} {o : Option α} {f : α → Option β} {b : β} (h : o.bind f = some b) : ∃ a, o = some a ∧ f a = some b := Option.bind_eq_some_iff.mp h
theorem map_ok' {α β : Type} {o : Option α} {f : α → β} {b : β} (h : o.map f = some b) : ∃ a, o = some a ∧ f a = b := Option.map_eq_some_iff.mp h
theorem slot_ok {N : List Str} {x : Str} {i : Nat} (h : slot N x = some i) : N[i]? = some x := by
  unfold slot at h
  obtain ⟨h1, h2, _⟩ := List.findIdx?_eq_some_iff_getElem.mp h
  rw [List.getElem?_eq_getElem h1, eq_of_beq h2]
theorem dbg_ok {x : Str} (h : dbgB x = true) : (x == ("__debug__" : Str)) = false ∧ (x == ("__classdict__" : Str)) = false := by
  unfold dbgB at h
  simpa using h
/-- a block's scope, as it is when it runs -/
structure ScOk (sc sc' : Scope) : Prop where
  loc : ∀ x, sc.names.lookup x = some .local → sc'.names.lookup x = some .local
  cel : ∀ x, sc.names.lookup x = some .cell → sc'.names.lookup x = some .cell
  fre : ∀ x, sc.names.lookup x = some .free → sc'.names.lookup x = some .free ∨ sc'.names.lookup x = some .cell
  glo : ∀ x, sc.names.lookup x = some .globalImplicit → sc'.names.lookup x = some .globalImplicit
theorem ScOk.refl {sc : Scope} : ScOk sc sc := ⟨fun _ h => h, fun _ h => h, fun _ h => .inl h, fun _ h => h⟩
theorem lookup_rel {env : PySem.Env} {x : Str} : ∀ {names : List (Str × NameKind)}, (names.map fun (n, k) => if (k == NameKind.free && env.scope.kind == .function && env.kindOf n == some .cell) then (n, NameKind.cell) else (n, k)).lookup x =
    (names.lookup x).map fun k => if (k == NameKind.free && env.scope.kind == .function && env.kindOf x == some .cell) then NameKind.cell else k
  | [] => rfl
  | (n, k) :: r => by
    have ih := @lookup_rel env x r
    show List.lookup x ((if (k == NameKind.free && env.scope.kind == .function && env.kindOf n == some .cell) = true then (n, NameKind.cell) else (n, k)) :: _) = _
    cases hx : x == n with
    | true =>
      cases eq_of_beq hx
      simp only [List.lookup_cons, beq_self_eq_true, Option.map_some]
      split <;> simp [List.lookup_cons]
    | false =>
      rw [show List.lookup x ((n, k) :: r) = List.lookup x r by simp [List.lookup_cons, hx]]
      split <;> (simp only [List.lookup_cons, hx]; exact ih)
theorem ScOk.rel {sc : Scope} {env : PySem.Env} : ScOk sc (relabel sc env) := by
  have e : ∀ x, (relabel sc env).names.lookup x = (sc.names.lookup x).map fun k => if (k == NameKind.free && env.scope.kind == .function && env.kindOf x == some .cell) then NameKind.cell else k := fun x => lookup_rel
  refine ⟨fun x h => ?_, fun x h => ?_, fun x h => ?_, fun x h => ?_⟩ <;> rw [e, h]
  · rfl
  · rfl
  · simp only [Option.map_some]; split
    · exact .inr rfl
    · exact .inl rfl
  · rfl
section
variable {sc sc' : Scope} {x : Str}
theorem ScOk.vis (h : ScOk sc sc') (b : visB sc x = true) : Vis sc' x := by
  unfold visB at b
  split at b <;> first | cases b | skip
  · exact .inl (h.loc _ (by assumption))
  · exact .inr (.inl (h.cel _ (by assumption)))
  · rename_i e
    rcases h.fre _ e with q | q
    · exact .inr (.inr q)
    · exact .inr (.inl q)
theorem ScOk.lc (h : ScOk sc sc') (b : locB sc x = true) : Loc sc' x := by
  unfold locB at b
  split at b <;> first | cases b | skip
  · exact .inl (h.loc _ (by assumption))
  · exact .inr (h.cel _ (by assumption))
theorem ScOk.gl (h : ScOk sc sc') (b : glB sc x = true) : sc'.names.lookup x = some .globalImplicit := h.glo _ (of_decide_eq_true b)
end
/-- what the translation asks of the context -/
structure GC (T : TC) (N : List Str) (CA : Nat → Option Addr) (cl : Nat → List Val → R (Val × Bool)) (sc : Scope) (c : Bool) (X : Cx) : Prop where
  hN : X.N = N
  nd : N.Nodup
  so : ScOk sc X.env.scope
  cm : c = true → X.calm = true
  un : X.A.units + 64 < cLine
  dp : X.A.depth + 100 < recursionLimit
  seer : X.base.NoSeer
  tree : X.prog.given.tree = none
  stk : ∃ e l, X.stack = e :: l ∧ e.scope.isGenerator = false ∧ e.scope.isCoroutine = false ∧ e.builtins = builtinsNs ∧ e.globals = mainGlobals
  cf : CFs X.K CA
  fns : c = true → ∀ x k np, T.fns.lookup x = some (k, np) → FnF X CA cl x k np
  csts : ∀ x v, T.csts.lookup x = some v → ∃ u y, X.mg x = some u ∧ RelV y u ∧ ∀ H P, RV X.K CA H P v y
  cls : ∀ x k, T.cls.lookup x = some k → ∃ C, CA k = some C ∧ X.mg x = some (.ref C)
  blt : ∀ x ∈ bltNames, X.mg x = none
  fn : ∀ x, locB sc x = true → X.fn x = true ∨ X.env.scope.names.lookup x = some .local
section
variable {T : TC} {N : List Str} {CA : Nat → Option Addr} {cl : Nat → List Val → R (Val × Bool)} {H0 : Bs} {sc : Scope} {c top : Bool} {X : Cx}
theorem GC.py (g : GC T N CA cl sc c X) : PyR X := fun pins σ H s I => by
  obtain ⟨e, l, h1, h2, h3, h4, h5⟩ := g.stk
  exact PylongRoom.of I.nolimit (by have := g.dp; show _ + 100 < _; exact this) (SeerAt.of (g.seer.keeps I.bk) g.tree (I.ok.frames.trans (by rw [h1])) h2 h3 h4 h5)
/-- an expression and what it was translated to -/
structure RE (CA : Nat → Option Addr) (cl : Nat → List Val → R (Val × Bool)) (H0 : Bs) (X : Cx) (src : Expr) (e : E) : Prop where
  ok : okSrc src = true
  v : V3 CA cl H0 X src e
  l : V3 CA cl H0 X src (lend e)
  nb : ∀ i, e ≠ .bor i
theorem lend_nb : ∀ (e : E), (∀ i, e ≠ .nm i) → lend e = e := fun e h => by
  cases e <;> first | rfl | exact absurd rfl (h _)
theorem RE.of {src : Expr} {e : E} (ok : okSrc src = true) (v : V3 CA cl H0 X src e) (hn : ∀ i, e ≠ .nm i) (hb : ∀ i, e ≠ .bor i) : RE CA cl H0 X src e := ⟨ok, v, by rw [lend_nb _ hn]; exact v, hb⟩
theorem trCl_ok (g : GC T N CA cl sc c X) {src : Expr} {d : Cl} (h : trCl T sc src = some d) : okSrc src = true ∧ ClsP CA X src d := by
  unfold trCl at h
  split at h <;> first | cases h | skip
  rename_i x p
  obtain ⟨h1, h⟩ := og_ok h
  rw [Bool.and_eq_true] at h1
  have hg : Gl X x := g.so.gl h1.1
  have hd := (dbg_ok h1.2).1
  refine ⟨rfl, ?_⟩
  split at h
  · rename_i k hk
    cases h
    obtain ⟨C, hC, hm⟩ := g.cls _ _ hk
    exact ⟨.ref C, .ref C, ⟨C, hC, rfl, rfl⟩, pe_glob hg hm rfl hd⟩
  · obtain ⟨t, h2, rfl⟩ := map_ok' h
    have : (x, t) ∈ tyNames := PySem.mem_of_lookup h2
    simp only [tyNames, List.mem_cons, List.not_mem_nil, or_false, Prod.mk.injEq] at this
    rcases this with ⟨rfl, rfl⟩ | ⟨rfl, rfl⟩ | ⟨rfl, rfl⟩ | ⟨rfl, rfl⟩ | ⟨rfl, rfl⟩ | ⟨rfl, rfl⟩
    all_goals exact ⟨.ty _, .type _, ⟨rfl, rfl⟩, pe_bltn hg (g.blt _ (by decide)) (by decide +kernel) rfl (by decide) hd⟩
theorem trTg_ok (g : GC T N CA cl sc c X) {src : Expr} {tg : Tg} (h : trTg N sc src = some tg) : TgP X src tg := by
  unfold trTg at h
  split at h <;> first | cases h | skip
  · obtain ⟨h1, h⟩ := og_ok h
    obtain ⟨i, h2, rfl⟩ := map_ok' h
    exact .one (by rw [g.hN]; exact slot_ok h2) (g.so.lc h1) (g.fn _ h1)
  · obtain ⟨is, h2, rfl⟩ := map_ok' h
    refine .tup (trL_ok (fun s i hs => ?_) h2)
    split at hs <;> first | cases hs | skip
    obtain ⟨h1, hs⟩ := og_ok hs
    exact ⟨_, _, rfl, by rw [g.hN]; exact slot_ok hs, g.so.lc h1, g.fn _ h1⟩
theorem bools_ok {op : BoolOp} {pos : Pos} : ∀ {srcs : List Expr} {es : List E} {e : E}, Vs3 CA cl H0 X srcs es → bools (match op with | .And => E.and | .Or => E.or) es = some e → VB CA cl H0 X op srcs pos e
  | _, _, _, .nil, h => by cases h
  | _, _, _, .cons q .nil, h => by cases h; exact VB.one op q.2
  | _, _, _, .cons q (.cons q2 t), h => by
    obtain ⟨r, h1, rfl⟩ := map_ok' h
    have ih := bools_ok (op := op) (pos := pos) (.cons q2 t) h1
    cases op
    · exact VB.and q.2 ih
    · exact VB.or q.2 ih
theorem and_flag {a b : E} {env : Env} {p : Val × Bool} (h : evE cl (.and a b) env = .ok p) : p.2 = false := by
  unfold evE at h
  obtain ⟨x, _, h⟩ := R.bind_eq_ok h
  obtain ⟨k, _, h⟩ := R.bind_eq_ok h
  split at h
  · obtain ⟨y, _, h⟩ := R.bind_eq_ok h
    obtain ⟨k', _, h⟩ := R.bind_eq_ok h
    cases h; rfl
  · cases h; rfl
theorem or_flag {a b : E} {env : Env} {p : Val × Bool} (h : evE cl (.or a b) env = .ok p) : p.2 = false := by
  unfold evE at h
  obtain ⟨x, _, h⟩ := R.bind_eq_ok h
  obtain ⟨k, _, h⟩ := R.bind_eq_ok h
  split at h
  · cases h; rfl
  · obtain ⟨y, _, h⟩ := R.bind_eq_ok h
    obtain ⟨k', _, h⟩ := R.bind_eq_ok h
    cases h; rfl
theorem bools_re {op : BoolOp} {pos : Pos} {srcs : List Expr} {es : List E} {e : E} (hv : Vs3 CA cl H0 X srcs es) (hl : 2 ≤ srcs.length) (h : bools (match op with | .And => E.and | .Or => E.or) es = some e) : RE CA cl H0 X (.BoolOp op srcs pos) e := by
  have vb := bools_ok (op := op) (pos := pos) hv h
  have : ∃ a b, e = (match op with | .And => E.and | .Or => E.or) a b := by
    match hv with
    | .nil => cases h
    | .cons _ .nil => exact absurd hl (by simp)
    | .cons q (.cons q2 t) =>
      obtain ⟨r, _, rfl⟩ := map_ok' h
      exact ⟨_, _, rfl⟩
  obtain ⟨a, b, rfl⟩ := this
  cases op
  · exact .of rfl (VB.v3 (by intro i z; cases z) vb fun _ _ e => and_flag e) (by intro i z; cases z) (by intro i z; cases z)
  · exact .of rfl (VB.v3 (by intro i z; cases z) vb fun _ _ e => or_flag e) (by intro i z; cases z) (by intro i z; cases z)
theorem trIt_ok (g : GC T N CA cl sc c X) {tr : Expr → Option E} (htr : ∀ s e, tr s = some e → RE CA cl H0 X s e) {ld : Bool} {src : Expr} {it : It} (h : trIt tr ld sc src = some it) : VI CA cl H0 X src it := by
  have val : ∀ s : Expr, (tr s).map (fun e => It.val (if ld then lend e else e)) = some it → VI CA cl H0 X s it := fun s h => by
    obtain ⟨e, h1, rfl⟩ := map_ok' h
    have r := htr _ _ h1
    cases ld
    · exact vi_val r.ok r.v
    · exact vi_val r.ok r.l
  unfold trIt at h
  split at h
  · rename_i f fp args ap
    split at h
    · rename_i ef
      have hg : Gl X f := g.so.gl (og_ok h).1
      replace h := (og_ok h).2
      subst ef
      split at h <;> first | cases h | skip
      · obtain ⟨e, h1, rfl⟩ := map_ok' h
        have r := htr _ _ h1
        exact vi_rng1 hg (g.blt _ (by decide)) r.ok r.l
      · obtain ⟨ea, h1, h⟩ := bnd_ok h
        obtain ⟨eb, h2, rfl⟩ := map_ok' h
        have r := htr _ _ h1
        have r2 := htr _ _ h2
        exact vi_rng2 hg (g.blt _ (by decide)) r.ok r2.ok r.l r2.l
    · split at h
      · rename_i ef
        have hg : Gl X f := g.so.gl (og_ok h).1
        replace h := (og_ok h).2
        subst ef
        split at h <;> first | cases h | skip
        obtain ⟨e, h1, rfl⟩ := map_ok' h
        have r := htr _ _ h1
        cases ld
        · exact vi_rvd hg (g.blt _ (by decide)) r.ok r.v
        · exact vi_rvd hg (g.blt _ (by decide)) r.ok r.l
      · exact val _ h
  · exact val _ h
end
end G

set_option linter.all false
set_option maxHeartbeats 8000000
set_option maxRecDepth 100000
/-! G8c: what the translation says holds: expressions, the induction. -/
namespace G
open PySem PySem.Spec PyProof.Rows L2 HT
section
variable {T : TC} {N : List Str} {CA : Nat → Option Addr} {cl : Nat → List Val → R (Val × Bool)} {H0 : Bs}
theorem GC.blk {sc : Scope} {c : Bool} {X : Cx} (g : GC T N CA cl sc c X) (scope : Scope) (s : Shared) (H : Hp) (C : Addr) (cl' : List (Str × Addr)) (fp : List Addr) : GC T N CA cl scope c (X.blk s H scope (compEnvC scope cl' C X.env) fp) where
  hN := g.hN
  nd := g.nd
  so := .rel
  cm := g.cm
  un := g.un
  dp := g.dp
  seer := g.seer
  tree := g.tree
  stk := g.stk
  cf := g.cf
  fns := fun hc x k np h => ⟨(g.fns hc x k np h).ex⟩
  csts := g.csts
  cls := g.cls
  blt := g.blt
  fn := fun x h => by
    unfold locB at h
    split at h <;> first | cases h | skip
    · exact .inr (ScOk.rel.loc _ (by assumption))
    · rename_i e
      exact .inl (by show (scope.names.lookup x == some .cell) = true; rw [e]; rfl)
theorem GC.blkOk {sc : Scope} {c : Bool} {X : Cx} (g : GC T N CA cl sc c X) {scope : Scope} {own : List (Str × Nat)} (h : blkC N sc scope own = true) : BlkOk X.N X.env.scope scope own := by
  have b := blkOk_by h
  refine ⟨b.kind, b.uniq, by rw [g.hN]; exact b.ix, fun y hy e => ?_, by rw [g.hN]; exact b.own⟩
  rcases b.free y hy e with q | q
  · exact .inl (g.so.cel _ q)
  · rcases g.so.fre _ q with q | q
    · exact .inr q
    · exact .inl q
def TE_ok (T : TC) (N : List Str) (CA : Nat → Option Addr) (cl : Nat → List Val → R (Val × Bool)) (H0 : Bs) (n : Nat) : Prop := ∀ c top sc (X : Cx), GC T N CA cl sc c X → ∀ src e, trE T N n c top sc src = some e → RE CA cl H0 X src e
theorem lc_ok {n : Nat} {sc scope : Scope} {X : Cx} (g : GC T N CA cl sc true X) (ih : TE_ok T N CA cl H0 n) {elt tgs it : Expr} {ifs : List Expr} {i : It} {tg : Tg} {el : E} {cond : Option E} {p : Pos} (h2 : trIt (trE T N n true true sc) true sc it = some i) (h3 : trTg N scope tgs = some tg) (h4 : trE T N n true false scope elt = some el)
    (h5 : (match ifs with | [] => some none | [d] => (trE T N n true false scope d).map fun e => some (lend e) | _ => none) = some cond) (h6 : blkC N sc scope ((G.tgs tg).map fun j => (N.getD j Str.empty, j)) = true) :
    (VI CA cl H0 X it i ∧ BlkOk X.N X.env.scope scope ((G.tgs tg).map fun j => (N.getD j Str.empty, j)) ∧ ((G.tgs tg).map fun j => (N.getD j Str.empty, j)).map (·.2) = G.tgs tg ∧
    (∀ (s : Shared) (H : Hp) (C : Addr) (cl : List (Str × Addr)) (fp : List Addr), TgP (X.blk s H scope (compEnvC scope cl C X.env) fp) tgs tg) ∧
    (∀ (s : Shared) (H : Hp) (C : Addr) (cl' : List (Str × Addr)) (fp : List Addr), PTsOk CA cl H0 (X.blk s H scope (compEnvC scope cl' C X.env) fp) ifs cond) ∧
    (∀ (s : Shared) (H : Hp) (C : Addr) (cl' : List (Str × Addr)) (fp : List Addr), V3 CA cl H0 (X.blk s H scope (compEnvC scope cl' C X.env) fp) elt el)) ∧
    V3 CA cl H0 X (.ListComp elt [⟨tgs, it, ifs, 0⟩] scope p) (.lc tg i cond el) := by
  have a1 := trIt_ok g (ih true true sc X g) h2
  have a2 := g.blkOk h6
  have a3 : ((G.tgs tg).map fun j => (N.getD j Str.empty, j)).map (·.2) = G.tgs tg := by rw [List.map_map]; exact List.map_id _
  have a4 : ∀ (s : Shared) (H : Hp) (C : Addr) (cl : List (Str × Addr)) (fp : List Addr), TgP (X.blk s H scope (compEnvC scope cl C X.env) fp) tgs tg := fun s H C cl' fp => trTg_ok (g.blk scope s H C cl' fp) h3
  have a5 : ∀ (s : Shared) (H : Hp) (C : Addr) (cl' : List (Str × Addr)) (fp : List Addr), PTsOk CA cl H0 (X.blk s H scope (compEnvC scope cl' C X.env) fp) ifs cond := fun s H C cl' fp => by
    split at h5
    · cases h5; trivial
    · obtain ⟨e, h7, rfl⟩ := map_ok' h5
      exact (ih true false scope _ (g.blk scope s H C cl' fp) _ _ h7).l
    · cases h5
  have a6 : ∀ (s : Shared) (H : Hp) (C : Addr) (cl' : List (Str × Addr)) (fp : List Addr), V3 CA cl H0 (X.blk s H scope (compEnvC scope cl' C X.env) fp) elt el := fun s H C cl' fp => (ih true false scope _ (g.blk scope s H C cl' fp) _ _ h4).v
  exact ⟨⟨a1, a2, a3, a4, a5, a6⟩, (v3_lc (g.cm rfl) (by rw [g.hN]; exact g.nd) a1 a2 a3 a4 a5 a6).2⟩
theorem trE_ok : ∀ n, TE_ok T N CA cl H0 n
  | 0 => fun c top sc X g src e h => by unfold trE at h; cases h
  | n + 1 => fun c top sc X g src e h => by
    have ih := trE_ok n
    have ih1 : ∀ s t, trE T N n c top sc s = some t → RE CA cl H0 X s t := fun s t => ih c top sc X g s t
    have ihE : ∀ {ss es}, trL (trE T N n c top sc) ss = some es → Vs3 CA cl H0 X ss es := fun h => trL_ok (fun s t hs => ⟨(ih1 _ _ hs).ok, (ih1 _ _ hs).v⟩) h
    have ihA : ∀ {ss es}, trL (fun s => (trE T N n c top sc s).map lend) ss = some es → Vs3 CA cl H0 X ss es := fun h => trL_ok (fun s t hs => by
      obtain ⟨e, h1, rfl⟩ := map_ok' hs
      exact ⟨(ih1 _ _ h1).ok, (ih1 _ _ h1).l⟩) h
    have len : ∀ {α β : Type} {R : α → β → Prop} {l : List α} {l' : List β}, Paired R l l' → l.length = l'.length := fun p => by
      induction p with
      | nil => rfl
      | cons _ _ ih => simp [ih]
    unfold trE at h
    split at h
    all_goals first | cases h | skip
    case h_1 x p =>
      obtain ⟨hd, h⟩ := og_ok h
      obtain ⟨hd1, hd2⟩ := dbg_ok hd
      split at h
      · rename_i i hi
        obtain ⟨hv, h⟩ := og_ok h
        cases h
        have hi : X.N[i]? = some x := by rw [g.hN]; exact slot_ok hi
        exact ⟨rfl, v3_nm hi (g.so.vis hv) hd1 hd2, v3_bor hi (g.so.vis hv) hd1 hd2, by intro i z; cases z⟩
      · obtain ⟨hg, h⟩ := og_ok h
        obtain ⟨v, h1, rfl⟩ := map_ok' h
        obtain ⟨u, y, hm, r, rv⟩ := g.csts _ _ h1
        exact .of rfl (v3_cst rfl (pe_glob (g.so.gl hg) hm r hd1) rv) (by intro i z; cases z) (by intro i z; cases z)
    case h_2 => exact .of rfl (v3_cst rfl pe_int fun _ _ => .int _) (by intro i z; cases z) (by intro i z; cases z)
    case h_3 => exact .of rfl (v3_cst rfl pe_str fun _ _ => .str _) (by intro i z; cases z) (by intro i z; cases z)
    case h_4 => exact .of rfl (v3_cst rfl pe_bl fun _ _ => .bl _) (by intro i z; cases z) (by intro i z; cases z)
    case h_5 => exact .of rfl (v3_cst rfl pe_non fun _ _ => .non) (by intro i z; cases z) (by intro i z; cases z)
    case h_6 a op b p =>
      obtain ⟨o, h1, h⟩ := bnd_ok h
      obtain ⟨ea, h2, h⟩ := bnd_ok h
      obtain ⟨eb, h3, h⟩ := bnd_ok h
      cases h
      cases bopOf_ok h1
      exact .of rfl (v3_bin g.py o (ih1 _ _ h2).l (ih1 _ _ h3).l) (by intro i z; cases z) (by intro i z; cases z)
    case h_7 a p =>
      obtain ⟨ea, h2, h⟩ := bnd_ok h
      cases h
      exact .of rfl (v3_neg (ih1 _ _ h2).l) (by intro i z; cases z) (by intro i z; cases z)
    case h_8 a p =>
      obtain ⟨ea, h2, h⟩ := bnd_ok h
      cases h
      exact .of rfl (v3_not (ih1 _ _ h2).l) (by intro i z; cases z) (by intro i z; cases z)
    case h_9 op vs p =>
      obtain ⟨h1, h⟩ := og_ok h
      obtain ⟨es, h2, h⟩ := bnd_ok h
      exact bools_re (ihA h2) (of_decide_eq_true h1) h
    case h_10 a k p1 p =>
      obtain ⟨ea, h2, h⟩ := bnd_ok h
      cases h
      exact .of rfl (v3_isn false (ih1 _ _ h2).l) (by intro i z; cases z) (by intro i z; cases z)
    case h_11 a k p1 p =>
      obtain ⟨ea, h2, h⟩ := bnd_ok h
      cases h
      exact .of rfl (v3_isn true (ih1 _ _ h2).l) (by intro i z; cases z) (by intro i z; cases z)
    case h_12 a b p =>
      obtain ⟨ea, h2, h⟩ := bnd_ok h
      obtain ⟨eb, h3, h⟩ := bnd_ok h
      cases h
      exact .of rfl (v3_inn g.un false (ih1 _ _ h3).ok (ih1 _ _ h2).l (ih1 _ _ h3).l) (by intro i z; cases z) (by intro i z; cases z)
    case h_13 a b p =>
      obtain ⟨ea, h2, h⟩ := bnd_ok h
      obtain ⟨eb, h3, h⟩ := bnd_ok h
      cases h
      exact .of rfl (v3_inn g.un true (ih1 _ _ h3).ok (ih1 _ _ h2).l (ih1 _ _ h3).l) (by intro i z; cases z) (by intro i z; cases z)
    case h_14 a op b p _ _ _ _ =>
      obtain ⟨o, h1, h⟩ := bnd_ok h
      obtain ⟨ea, h2, h⟩ := bnd_ok h
      obtain ⟨eb, h3, h⟩ := bnd_ok h
      cases h
      cases copOf_ok h1
      exact .of rfl (v3_cmp g.un o (ih1 _ _ h2).l (ih1 _ _ h3).l) (by intro i z; cases z) (by intro i z; cases z)
    case h_15 a op op' b d p =>
      obtain ⟨o, h1, h⟩ := bnd_ok h
      obtain ⟨o', h1', h⟩ := bnd_ok h
      obtain ⟨ea, h2, h⟩ := bnd_ok h
      obtain ⟨eb, h3, h⟩ := bnd_ok h
      obtain ⟨ed, h4, h⟩ := bnd_ok h
      cases h
      cases copOf_ok h1
      cases copOf_ok h1'
      exact .of rfl (v3_chn g.un o o' (show behindInMarks _ d = false from okSrc.bm (ih1 _ _ h4).ok _) (ih1 _ _ h2).l (ih1 _ _ h3).l (ih1 _ _ h4).l) (by intro i z; cases z) (by intro i z; cases z)
    case h_16 d a b p =>
      obtain ⟨ed, h2, h⟩ := bnd_ok h
      obtain ⟨ea, h3, h⟩ := bnd_ok h
      obtain ⟨eb, h4, h⟩ := bnd_ok h
      cases h
      exact .of rfl (v3_ifx (ih1 _ _ h3).nb (ih1 _ _ h4).nb (ih1 _ _ h2).l (ih1 _ _ h3).v (ih1 _ _ h4).v) (by intro i z; cases z) (by intro i z; cases z)
    case h_17 a k p1 p2 p3 p =>
      obtain ⟨ea, h2, h⟩ := bnd_ok h
      cases h
      exact .of rfl (v3_rev (ih1 _ _ h2).l) (by intro i z; cases z) (by intro i z; cases z)
    case h_18 a lo hi p1 p =>
      obtain ⟨ea, h2, h⟩ := bnd_ok h
      obtain ⟨el, h3, h⟩ := bnd_ok h
      obtain ⟨eh, h4, h⟩ := bnd_ok h
      cases h
      have part : ∀ {o : Option Expr} {eo : Option E}, (match o with | none => some none | some l => (trE T N n c top sc l).map fun e => some (lend e)) = some eo → ∀ W, Takes X W → PO X o (tP X.K CA cl H0 W eo) := fun {o eo} h W tk => by
        cases o with
        | none => cases h; exact po_no
        | some l =>
          obtain ⟨e, h1, rfl⟩ := map_ok' h
          exact po_so tk (ih1 _ _ h1).l
      exact .of rfl (v3_slc (ih1 _ _ h2).l (part h3) (part h4)) (by intro i z; cases z) (by intro i z; cases z)
    case h_19 a b p _ _ =>
      obtain ⟨ea, h2, h⟩ := bnd_ok h
      obtain ⟨eb, h3, h⟩ := bnd_ok h
      cases h
      exact .of rfl (v3_ix (ih1 _ _ h3).ok (ih1 _ _ h2).l (ih1 _ _ h3).l) (by intro i z; cases z) (by intro i z; cases z)
    case h_20 es k p =>
      obtain ⟨h1, h⟩ := og_ok h
      obtain ⟨ts, h2, rfl⟩ := map_ok' h
      exact .of rfl (v3_tup h1 (ihE h2)) (by intro i z; cases z) (by intro i z; cases z)
    case h_21 es p =>
      obtain ⟨h1, h⟩ := og_ok h
      obtain ⟨ts, h2, rfl⟩ := map_ok' h
      exact .of rfl (v3_lst h1 (ihE h2)) (by intro i z; cases z) (by intro i z; cases z)
    case h_22 f p1 args p =>
      have h1 := (og_ok h).1
      replace h := (og_ok h).2
      rw [Bool.and_eq_true] at h1
      have hg : Gl X f := g.so.gl h1.1
      have hd := (dbg_ok h1.2).1
      split at h
      · rename_i ef
        subst ef
        have hm := g.blt "isinstance" (by decide)
        split at h
        · obtain ⟨hl, h⟩ := og_ok h
          obtain ⟨ea, h2, h⟩ := bnd_ok h
          obtain ⟨ds, h3, h⟩ := bnd_ok h
          cases h
          exact .of rfl (v3_isA g.cf hg hm (ih1 _ _ h2).ok hl (ih1 _ _ h2).l (trL_ok (R := fun s d => okSrc s = true ∧ ClsP CA X s d) (fun s d hs => trCl_ok g hs) h3)) (by intro i z; cases z) (by intro i z; cases z)
        · obtain ⟨ea, h2, h⟩ := bnd_ok h
          obtain ⟨d, h3, h⟩ := bnd_ok h
          cases h
          exact .of rfl (v3_is1 g.cf hg hm (ih1 _ _ h2).ok (trCl_ok g h3).1 (ih1 _ _ h2).l (trCl_ok g h3).2) (by intro i z; cases z) (by intro i z; cases z)
        · cases h
      · split at h
        · rename_i k np hf
          obtain ⟨h2, h⟩ := og_ok h
          rw [Bool.and_eq_true] at h2
          obtain ⟨es, h3, rfl⟩ := map_ok' h
          refine .of rfl (v3_call (g.fns h2.1 _ _ _ hf) (of_decide_eq_true h2.2) hg hd (trL_ok (fun s t hs => ?_) h3)) (by intro i z; cases z) (by intro i z; cases z)
          obtain ⟨e, h4, rfl⟩ := map_ok' hs
          refine ⟨(ih1 _ _ h4).ok, ?_⟩
          split
          · exact (ih1 _ _ h4).l
          · exact (ih1 _ _ h4).v
        · obtain ⟨h2, h⟩ := og_ok h
          rw [Bool.and_eq_true] at h2
          obtain ⟨bf, h3, h⟩ := bnd_ok h
          obtain ⟨es, h4, rfl⟩ := map_ok' h
          obtain ⟨ef, hfn⟩ := bfOf_ok h3
          cases ef
          refine .of rfl (v3_blt (g.cm h2.1) hfn hg (g.blt _ (bfN_mem bf)) (ihA h4) ?_) (by intro i z; cases z) (by intro i z; cases z)
          rintro rfl
          exact absurd h2.2 (by decide)
    case h_23 elt tgs it ifs scope p =>
      obtain ⟨h1, h⟩ := og_ok h
      rw [Bool.and_eq_true] at h1
      obtain ⟨i, h2, h⟩ := bnd_ok h
      obtain ⟨tg, h3, h⟩ := bnd_ok h
      obtain ⟨el, h4, h⟩ := bnd_ok h
      obtain ⟨cond, h5, h⟩ := bnd_ok h
      obtain ⟨h6, h⟩ := og_ok h
      cases h
      obtain ⟨rfl, rfl⟩ := h1
      exact .of rfl (lc_ok g ih h2 h3 h4 h5 h6).2 (by intro i z; cases z) (by intro i z; cases z)
    case h_24 x px m pa k n1 p1 pc =>
      obtain ⟨h1, h⟩ := og_ok h
      obtain ⟨ea, h2, h⟩ := bnd_ok h
      split at h
      · rename_i em
        cases h; subst em
        exact .of rfl (v3_mt (f := .cnt) g.un rfl h1 rfl (ih1 _ _ h2).l) (by intro i z; cases z) (by intro i z; cases z)
      · split at h
        · rename_i em
          cases h; subst em
          exact .of rfl (v3_mt (f := .idx) g.un rfl h1 rfl (ih1 _ _ h2).l) (by intro i z; cases z) (by intro i z; cases z)
        · cases h
end
end G

set_option linter.all false
set_option maxHeartbeats 8000000
set_option maxRecDepth 100000
/-! G8d: what the translation says holds: statements. -/
namespace G
open PySem PySem.Spec PyProof.Rows L2 HT
/-- what a statement asks of the context -/
structure GS (T : TC) (N : List Str) (CA : Nat → Option Addr) (cl : Nat → List Val → R (Val × Bool)) (sc : Scope) (c : Bool) (X : Cx) : Prop where
  g : GC T N CA cl sc c X
  sce : X.env.scope = sc
  kind : sc.kind = .function
  stk : X.stack = X.env :: X.outer
  fr : X.env.frame = some X.env.locals
  ex : X.ex = []
  hp : PassesOwn (model X.prog X.w) X.A X.env X.xe
section
variable {T : TC} {N : List Str} {CA : Nat → Option Addr} {cl : Nat → List Val → R (Val × Bool)} {H0 : Bs} {sc : Scope} {c : Bool} {X : Cx}
theorem GC.tr (g : GC T N CA cl sc c X) (pn : List (Addr × Obj)) (xe : Value → Shared → Prop) : GC T N CA cl sc c (X.tr pn xe) :=
  ⟨g.hN, g.nd, g.so, g.cm, g.un, g.dp, g.seer, g.tree, g.stk, g.cf, fun hc x k np h => ⟨(g.fns hc x k np h).ex⟩, g.csts, g.cls, g.blt, g.fn⟩
theorem GC.suite (g : GC T N CA cl sc c X) (a : Addr) (pn : List (Addr × Obj)) : GC T N CA cl sc false (X.suite a pn) :=
  ⟨g.hN, g.nd, g.so, fun z => absurd z Bool.false_ne_true, g.un, g.dp, g.seer, g.tree, g.stk, g.cf, fun z => absurd z Bool.false_ne_true, g.csts, g.cls, g.blt, g.fn⟩
theorem GS.tr (s : GS T N CA cl sc c X) (pn : List (Addr × Obj)) (xe : Value → Shared → Prop) (hp : PassesOwn (model X.prog X.w) X.A X.env xe) : GS T N CA cl sc c (X.tr pn xe) :=
  ⟨s.g.tr pn xe, s.sce, s.kind, s.stk, s.fr, s.ex, hp⟩
theorem GS.suite (s : GS T N CA cl sc c X) (a : Addr) (pn : List (Addr × Obj)) : GS T N CA cl sc false (X.suite a pn) :=
  ⟨s.g.suite a pn, s.sce, s.kind, s.stk, s.fr, s.ex, PassesOwn.never⟩
theorem GS.bk (s : GS T N CA cl sc c X) : X.env.blockKind = .function := by
  have : X.env.scope.kind = .function := by rw [s.sce]; exact s.kind
  show (if X.env.scope.kind.isAnnotationScope then ScopeKind.function else X.env.scope.kind) = .function
  rw [this]; rfl
theorem swB_ok (s : GS T N CA cl sc c X) {y : Str} {py p pos : Pos} {scope : Scope} {elt : Expr} {gs : List Comprehension} (h : swB sc y py p scope = true) :
    X.env.scope.names.lookup y = some .local ∧ swapsWith (.ListComp elt gs scope p) (some (.Name y py)) pos.line X.env = pure true := by
  unfold swB at h
  rw [Bool.and_eq_true, Bool.and_eq_true] at h
  obtain ⟨⟨h1, h2⟩, h3⟩ := h
  have h1 := of_decide_eq_true h1
  refine ⟨by rw [s.sce]; exact h1, ?_⟩
  show (pure (X.env.blockKind == .function && X.env.kindOf y == some .local && py.line == p.line && !(scope.names.any fun (n, k) => n == y && (k == .local || k == .cell))) : Sem Bool) = _
  have e1 : X.env.kindOf y = some .local := by show X.env.scope.names.lookup y = _; rw [s.sce]; exact h1
  rw [s.bk, e1, h2, h3]
  rfl
theorem cell_sw (s : GS T N CA cl sc c X) {y : Str} {py p pos : Pos} {scope : Scope} {elt : Expr} {gs : List Comprehension} (h : sc.names.lookup y = some .cell) :
    swapsWith (.ListComp elt gs scope p) (some (.Name y py)) pos.line X.env = pure false := by
  show (pure (X.env.blockKind == .function && X.env.kindOf y == some .local && py.line == p.line && !(scope.names.any fun (n, k) => n == y && (k == .local || k == .cell))) : Sem Bool) = _
  have e1 : X.env.kindOf y = some .cell := by show X.env.scope.names.lookup y = _; rw [s.sce]; exact h
  rw [s.bk, e1]
  rfl
theorem cutSw_ok (s : GS T N CA cl sc c X) {ts vs : List Expr} {kt k2 : Nat} {p p2 : Pos} {r : Option (List Str)} (h : cutSw ts vs sc = some r) : swappedStores [.Tuple ts kt p] (.Tuple vs k2 p2) X.env = pure r := by
  have eb := s.bk
  have ek : X.env.kindOf = fun n => sc.names.lookup n := by funext n; show X.env.scope.names.lookup n = _; rw [s.sce]
  unfold cutSw at h
  unfold swappedStores
  simp only [eb, ek]
  rw [show (ScopeKind.function != ScopeKind.function) = false from rfl, Bool.or_false]
  dsimp only at h
  split at h
  · rename_i h1; cases h; exact if_pos h1
  rename_i h1; refine (if_neg h1).trans ?_
  split at h
  · rename_i h2; cases h; exact if_pos h2
  rename_i h2; refine (if_neg h2).trans ?_
  split at h
  · rename_i h3; cases h; exact if_pos h3
  rename_i h3; refine (if_neg h3).trans ?_
  split at h
  · rename_i h4; cases h; exact if_pos h4
  rename_i h4; refine (if_neg h4).trans ?_
  split at h
  · cases h
  rename_i h5; cases h; exact if_neg h5
/-- the names of a target -/
def nmOf : Expr → Option Str
  | .Name x _ => some x
  | _ => none
theorem fm_len {α β : Type} {f g : α → Option β} (hfg : ∀ a b, f a = some b → g a = some b) : ∀ {l : List α}, (l.filterMap f).length = l.length → l.filterMap f = l.filterMap g
  | [], _ => rfl
  | a :: l, h => by
    cases e : f a with
    | none =>
      rw [List.filterMap_cons_none e] at h
      have := List.length_filterMap_le f l
      simp at h; omega
    | some b =>
      rw [List.filterMap_cons_some e] at h ⊢
      rw [List.filterMap_cons_some (hfg a b e), fm_len hfg (by simpa using h)]
theorem cutSw_some {ts vs : List Expr} {nm : List Str} (h : cutSw ts vs sc = some (some nm)) : nm = ts.filterMap nmOf ∧ ∀ x ∈ nm, sc.names.lookup x = some .local := by
  unfold cutSw at h
  dsimp only at h
  split at h; · cases h
  split at h; · cases h
  split at h; · cases h
  rename_i h3
  split at h; · cases h
  split at h; · cases h
  cases h
  simp only [Bool.or_eq_true, bne_iff_ne, ne_eq, not_or, Decidable.not_not] at h3
  refine ⟨fm_len (fun a b e => ?_) h3.1, fun x hx => ?_⟩
  · split at e
    · split at e
      · cases e; rfl
      · cases e
    · cases e
  · obtain ⟨a, _, e⟩ := List.mem_filterMap.mp hx
    split at e
    · split at e
      · rename_i q
        cases e
        rw [Bool.and_eq_true] at q
        exact eq_of_beq q.1
      · cases e
    · cases e
theorem cutSw_loc {ts vs : List Expr} {nm : List Str} (h : cutSw ts vs sc = some (some nm)) {x : Str} (hx : x ∈ nm) : sc.names.lookup x = some .local := (cutSw_some h).2 x hx
theorem cutSw_nm {ts vs : List Expr} {nm : List Str} (h : cutSw ts vs sc = some (some nm)) : nm = ts.filterMap nmOf := (cutSw_some h).1
def TS_ok (T : TC) (N : List Str) (CA : Nat → Option Addr) (cl : Nat → List Val → R (Val × Bool)) (H0 : Bs) (n : Nat) : Prop := ∀ c sc (X : Cx), GS T N CA cl sc c X → ∀ src e, trS T N n c sc src = some e → S3 CA cl H0 X src e
theorem ss_of {n : Nat} (ih : TS_ok T N CA cl H0 n) (s : GS T N CA cl sc c X) : ∀ {ss : List Stmt} {es : List S}, trL (trS T N n c sc) ss = some es → Ss3 CA cl H0 X ss es
  | [], _, h => by cases h; exact ss_nil
  | st :: ss, _, h => by
    obtain ⟨a, h1, h⟩ := bnd_ok h
    obtain ⟨as, h2, h⟩ := bnd_ok h
    cases h
    exact ss_cons (ih _ _ _ s _ _ h1) (ss_of ih s h2)
theorem trS_ok : ∀ n, TS_ok T N CA cl H0 n
  | 0 => fun c sc X s src e h => by unfold trS at h; cases h
  | n + 1 => fun c sc X s src e h => by
    have ih := trS_ok n
    have g := s.g
    have nd : X.N.Nodup := by rw [g.hN]; exact g.nd
    have ihe : ∀ {a ea}, trE T N n c true sc a = some ea → RE CA cl H0 X a ea := fun h => trE_ok n c true sc X g _ _ h
    have hsl : ∀ {x i}, slot N x = some i → X.N[i]? = some x := fun h => by rw [g.hN]; exact slot_ok h
    unfold trS at h
    split at h
    all_goals first | cases h | skip
    case h_1 p => exact s_pass
    case h_2 p => exact s_retn
    case h_3 e p =>
      obtain ⟨ea, h1, h⟩ := bnd_ok h
      split at h
      · split at h <;> first | cases h | skip
        have h2 := (og_ok h).1
        replace h := (og_ok h).2
        cases h
        simp only [Bool.and_eq_true, decide_eq_true_eq] at h2
        obtain ⟨⟨h2, hv⟩, hd⟩ := h2
        exact s_retm (hsl h2) (g.so.vis hv) (dbg_ok hd).1 (dbg_ok hd).2
      · rename_i hn
        cases h
        exact s_ret (fun i z => hn i z) (ihe h1).v
    case h_4 y py elt gs scope p pos =>
      have h1 := (og_ok h).1
      replace h := (og_ok h).2
      rw [Bool.and_eq_true] at h1
      obtain ⟨i, h2, h⟩ := bnd_ok h
      obtain ⟨ea, h3, rfl⟩ := map_ok' h
      obtain ⟨rfl, hw⟩ := h1
      by_cases hcell : sc.names.lookup y = some .cell
      · have hl : locB sc y = true := by unfold locB; rw [hcell]
        exact s_setN nd (hsl h2) (g.so.lc hl) (g.fn _ hl) (cell_sw s hcell) (ihe h3).v
      rw [decide_eq_false hcell, Bool.or_false] at hw
      cases n with
      | zero => unfold trE at h3; cases h3
      | succ m =>
        unfold trE at h3
        split at h3
        all_goals rename_i heq
        all_goals first | (cases heq; done) | (cases h3; done) | skip
        all_goals cases heq
        obtain ⟨_, h3⟩ := og_ok h3
        obtain ⟨it', a2, h3⟩ := bnd_ok h3
        obtain ⟨tg, a3, h3⟩ := bnd_ok h3
        obtain ⟨el, a4, h3⟩ := bnd_ok h3
        obtain ⟨cond, a5, h3⟩ := bnd_ok h3
        obtain ⟨a6, h3⟩ := og_ok h3
        cases h3
        obtain ⟨⟨b1, b2, b3, b4, b5, b6⟩, _⟩ := lc_ok (p := p) g (trE_ok m) a2 a3 a4 a5 a6
        obtain ⟨w1, w2⟩ := swB_ok s hw
        exact s_setLc (g.cm rfl) nd (hsl h2) w1 w2 b1 b2 b3 b4 b5 b6
    case h_5 y p1 e pos _ =>
      have h1 := (og_ok h).1
      replace h := (og_ok h).2
      rw [Bool.and_eq_true] at h1
      obtain ⟨i, h2, h⟩ := bnd_ok h
      obtain ⟨ea, h3, rfl⟩ := map_ok' h
      exact s_set nd (hsl h2) (g.so.lc h1.1) (g.fn _ h1.1) h1.2 (ihe h3).v
    case h_6 ts k p vs k2 p2 pos =>
      have h1 := (og_ok h).1
      replace h := (og_ok h).2
      obtain ⟨r, h2, h⟩ := bnd_ok h
      have hw := cutSw_ok (kt := k) (k2 := k2) (p := p) (p2 := p2) s h2
      split at h
      · obtain ⟨tg, h3, h⟩ := bnd_ok h
        split at h
        · obtain ⟨ea, h4, rfl⟩ := map_ok' h
          exact s_unp nd (g.cm h1) (trTg_ok g h3) hw rfl (ihe h4).v
        · cases h
      · rename_i nm
        have hlo : ∀ {x : Str}, x ∈ nm → X.env.scope.names.lookup x = some .local := fun hx => by
          rw [s.sce]; exact cutSw_loc h2 hx
        have hnm := cutSw_nm h2
        split at h
        · obtain ⟨i, h3, h⟩ := bnd_ok h
          obtain ⟨j, h4, h⟩ := bnd_ok h
          obtain ⟨ea, h5, h⟩ := bnd_ok h
          obtain ⟨eb, h6, h⟩ := bnd_ok h
          have h7 := (og_ok h).1
          replace h := (og_ok h).2
          cases h
          have e : nm = [_, _] := hnm
          subst e
          exact s_par nd (g.cm h1) (hsl h3) (hsl h4) (of_decide_eq_true h7) (hlo (by simp)) (hlo (by simp)) hw (.cons ⟨(ihe h5).ok, (ihe h5).v⟩ (.cons ⟨(ihe h6).ok, (ihe h6).v⟩ .nil))
        · obtain ⟨i, h3, h⟩ := bnd_ok h
          obtain ⟨j, h4, h⟩ := bnd_ok h
          obtain ⟨l, h4', h⟩ := bnd_ok h
          obtain ⟨ea, h5, h⟩ := bnd_ok h
          obtain ⟨eb, h6, h⟩ := bnd_ok h
          obtain ⟨ec, h6', h⟩ := bnd_ok h
          have h7 := (og_ok h).1
          replace h := (og_ok h).2
          cases h
          simp only [Bool.and_eq_true, decide_eq_true_eq] at h7
          have e : nm = [_, _, _] := hnm
          subst e
          exact s_par3 nd (g.cm h1) (hsl h3) (hsl h4) (hsl h4') h7.1.1 h7.1.2 h7.2 (hlo (by simp)) (hlo (by simp)) (hlo (by simp)) hw (.cons ⟨(ihe h5).ok, (ihe h5).v⟩ (.cons ⟨(ihe h6).ok, (ihe h6).v⟩ (.cons ⟨(ihe h6').ok, (ihe h6').v⟩ .nil)))
        · cases h
    case h_7 ts k p x p1 m pa pc pos =>
      have h1 := (og_ok h).1
      replace h := (og_ok h).2
      simp only [Bool.and_eq_true, decide_eq_true_eq] at h1
      obtain ⟨⟨⟨⟨hc, hm⟩, hline⟩, hv⟩, hd⟩ := h1
      obtain ⟨hd1, hd2⟩ := dbg_ok hd
      obtain ⟨tg, h2, h⟩ := bnd_ok h
      split at h
      · rename_i is
        obtain ⟨i, h3, rfl⟩ := map_ok' h
        subst hm
        exact s_popu nd (g.cm hc) (trTg_ok g h2) (hsl h3) (g.so.vis hv) hd1 hd2 hline
      · cases h
    case h_8 ts k p e pos hn1 hn2 =>
      have h1 := (og_ok h).1
      replace h := (og_ok h).2
      rw [Bool.and_eq_true] at h1
      obtain ⟨tg, h2, h⟩ := bnd_ok h
      split at h
      · obtain ⟨ea, h3, rfl⟩ := map_ok' h
        exact s_unp nd (g.cm h1.1) (trTg_ok g h2) (by cases e <;> first | rfl | exact absurd rfl (hn1 _ _ _) | exact absurd rfl (hn2 _ _ _)) h1.2 (ihe h3).v
      · cases h
    case h_9 x p2 b p1 e pos =>
      have h1 := (og_ok h).1
      replace h := (og_ok h).2
      simp only [Bool.and_eq_true, Bool.not_eq_true'] at h1
      obtain ⟨⟨⟨hv, hd⟩, hs⟩, hb⟩ := h1
      obtain ⟨hd1, hd2⟩ := dbg_ok hd
      obtain ⟨i, h2, h⟩ := bnd_ok h
      obtain ⟨eb, h3, h⟩ := bnd_ok h
      obtain ⟨ea, h4, rfl⟩ := map_ok' h
      exact s_six (hsl h2) (g.so.vis hv) hd1 hd2 (fun v => by cases b <;> first | rfl | cases hb) hs (ihe h4).v (ihe h3).l
    case h_10 x p1 m pa args pc pos =>
      have h1 := (og_ok h).1
      replace h := (og_ok h).2
      simp only [Bool.and_eq_true] at h1
      obtain ⟨⟨hline, hv⟩, hd⟩ := h1
      obtain ⟨hd1, hd2⟩ := dbg_ok hd
      obtain ⟨i, h2, hq⟩ := bnd_ok h
      clear h
      split at hq
      · split at hq
        · rename_i hm; subst hm; cases hq
          exact s_pop (hsl h2) (g.so.vis hv) hd1 hd2 hline
        · split at hq
          · rename_i hm; subst hm; cases hq
            exact s_rev (hsl h2) (g.so.vis hv) hd1 hd2 hline
          · cases hq
      · split at hq
        · rename_i hm; subst hm
          obtain ⟨ea, h3, rfl⟩ := map_ok' hq
          exact s_app (hsl h2) (g.so.vis hv) hd1 hd2 hline (ihe h3).ok (ihe h3).v
        · cases hq
      · cases hq
    case h_11 e pos _ =>
      have h1 := (og_ok h).1
      replace h := (og_ok h).2
      obtain ⟨ea, h3, rfl⟩ := map_ok' h
      exact s_exp h1 (ihe h3).v
    case h_12 d a b pos =>
      obtain ⟨ed, h1, h⟩ := bnd_ok h
      obtain ⟨ea, h2, h⟩ := bnd_ok h
      obtain ⟨eb, h3, rfl⟩ := map_ok' h
      exact s_if (ihe h1).l (ss_of ih s h2) (ss_of ih s h3)
    case h_13 d b pos =>
      obtain ⟨ed, h1, h⟩ := bnd_ok h
      obtain ⟨eb, h3, rfl⟩ := map_ok' h
      exact s_whl s.hp (ihe h1).l (ss_of ih s h3)
    case h_14 tgs it b pos =>
      have h1 := (og_ok h).1
      replace h := (og_ok h).2
      obtain ⟨i, h2, h⟩ := bnd_ok h
      obtain ⟨tg, h3, h⟩ := bnd_ok h
      obtain ⟨eb, h4, rfl⟩ := map_ok' h
      subst h1
      exact s_for s.hp nd (g.cm rfl) (trTg_ok g h3) (trIt_ok g (fun a ea h => trE_ok n true true sc X g a ea h) h2) (ss_of ih s h4)
    case h_15 x p3 m k p2 p1 pos =>
      have h1 := (og_ok h).1
      replace h := (og_ok h).2
      simp only [Bool.and_eq_true] at h1
      obtain ⟨⟨hc, hg⟩, hd⟩ := h1
      obtain ⟨j, h2, rfl⟩ := map_ok' h
      obtain ⟨C, hC, hm⟩ := g.cls _ _ h2
      exact s_rse g.cf (g.cm hc) hC hm (g.so.gl hg) (dbg_ok hd).1
    case h_16 b x p2 nm h0 hs p1 pos =>
      have h1 := (og_ok h).1
      replace h := (og_ok h).2
      simp only [Bool.and_eq_true, decide_eq_true_eq] at h1
      obtain ⟨⟨⟨hc, hg⟩, hd⟩, hl⟩ := h1
      obtain ⟨k, h2, h⟩ := bnd_ok h
      obtain ⟨i, h3, h⟩ := bnd_ok h
      obtain ⟨eb, h4, h⟩ := bnd_ok h
      obtain ⟨eh, h5, rfl⟩ := map_ok' h
      obtain ⟨C, hC, hm⟩ := g.cls _ _ h2
      exact s_try g.cf s.stk s.fr s.ex nd (hsl h3) (by show X.env.scope.names.lookup nm = _; rw [s.sce]; exact hl) hC hm (g.so.gl hg) (dbg_ok hd).1
        (fun pn xe hp => ss_of ih (s.tr pn xe hp) h4) (fun a pn => ss_of ih (s.suite a pn) h5)
end
end G

set_option linter.all false
set_option maxHeartbeats 4000000
set_option maxRecDepth 100000
/-! G9: a def as the table has it. -/
namespace G
open PySem PySem.Spec PyProof.Rows L2 HT
/-- a def of the text: its statement, its names by slot, its parameters, what it was translated to -/
structure DI where
  x : Str
  st : Stmt
  N : List Str
  ps : List Str
  fd : FD
/-- the check, by the kernel -/
def DI.ok (T : TC) (d : DI) (body : Option (List S)) : Bool := decide (d.fd.np = d.ps.length) && decide (d.fd.nl = d.N.length)
section
variable {T : TC} {CA : Nat → Option Addr} {FT : Nat → Option FD} {P : Program} {w : World} {K : PySem.W.Frag} {mg : Str → Option Value} {base : Heap}
/-- what the walk asks of the row -/
structure Txt (T : TC) (CA : Nat → Option Addr) (P : Program) (K : PySem.W.Frag) (mg : Str → Option Value) (base : Heap) : Prop where
  seer : base.NoSeer
  tree : P.given.tree = none
  cf : CFs K CA
  csts : ∀ x v, T.csts.lookup x = some v → ∃ u y, mg x = some u ∧ RelV y u ∧ ∀ H P, RV K CA H P v y
  cls : ∀ x k, T.cls.lookup x = some k → ∃ C, CA k = some C ∧ mg x = some (.ref C)
  blt : ∀ x ∈ bltNames, mg x = none
/-- a def as the text has it, and as the table has it -/
structure DOk (T : TC) (FT : Nat → Option FD) (K : PySem.W.Frag) (mg : Str → Option Value) (k : Nat) (x : Str) (st : Stmt) (N ps : List Str) (ad : Addr) (fd : FuncData) (fb : FD) : Prop where
  F : Fun K x x st ad fd
  S : FnScope N ps (defScope st)
  m : mg x = some (.ref ad)
  b : Binds K fd ps []
  np : fb.np = ps.length
  nl : fb.nl = N.length
  tr : ∃ n, trL (trS T N n true (defScope st)) (defBody st) = some fb.body
  ft : FT k = some fb
/-- each name of the table is a def -/
def Dfs (T : TC) (FT : Nat → Option FD) (K : PySem.W.Frag) (mg : Str → Option Value) : Prop := ∀ x k np, T.fns.lookup x = some (k, np) → ∃ st N ps ad fd fb, DOk T FT K mg k x st N ps ad fd fb ∧ ps.length = np
theorem startE_get {nl : Nat} {vs : List Val} {i : Nat} {p : Val × Bool} (h : (startE nl vs)[i]? = some (some p)) : p.2 = false ∧ vs[i]? = some p.1 := by
  unfold startE at h
  by_cases hi : i < vs.length
  · rw [List.getElem?_append_left (by rw [List.length_map]; exact hi), List.getElem?_map] at h
    cases e : vs[i]? with
    | none => rw [e] at h; cases h
    | some v => rw [e] at h; cases h; exact ⟨rfl, rfl⟩
  · rw [List.getElem?_append_right (by rw [List.length_map]; omega), List.getElem?_replicate] at h
    split at h <;> cases h
theorem er_start {H : Hp} {P : Addr → Prop} {N : List Str} {nl : Nat} {args : List Val} {vs : List V} (t : Trk P H) (r : RVs K CA H P args vs) (hn : nl = N.length) (hl : vs.length ≤ N.length) : ER K CA ⟨H, P⟩ H P (startE nl args) (L2.start N vs) where
  ext := Same.refl _
  gr := .refl
  trk := t
  len := by
    unfold startE L2.start
    rw [List.length_append, List.length_append, List.length_map, List.length_map, List.length_replicate, List.length_replicate, r.length, hn]
  shr := fun i v e => by
    obtain ⟨_, h⟩ := startE_get e
    obtain ⟨x, h1, h2⟩ := r.get h
    refine ⟨x, ?_, h2⟩
    unfold L2.start
    rw [List.getElem?_append_left (by rw [List.length_map]; exact (List.getElem?_eq_some_iff.mp h1).1), List.getElem?_map, h1]; rfl
  own := fun i v e => by
    obtain ⟨h, _⟩ := startE_get e; cases h
  dis := fun i j v w a e => by
    obtain ⟨h, _⟩ := startE_get e; cases h
theorem fn_ok {FT : Nat → Option FD} (D : Dfs T FT K mg) (Tx : Txt T CA P K mg base) : ∀ (n k : Nat) (x : Str) (st : Stmt) (N ps : List Str) (ad : Addr) (fd : FuncData) (fb : FD), DOk T FT K mg k x st N ps ad fd fb →
    FnOk P w K mg base (L2.CX P w) (n + 40) ad fd ps (spF K CA (callF FT n) k ps.length)
  | 0, k, x, st, N, ps, ad, fd, fb, d => by
    refine ⟨fun vs H Q E h => ?_, fun A outer s H args us vs Q E hr e0 hb hv h => ?_⟩
    · obtain ⟨_, _, _, _, h, _⟩ := h
      exact h
    · obtain ⟨_, _, _, _, _, h⟩ := h
      exact h.elim
  | n + 1, k, x, st, N, ps, ad, fd, fb, d => by
    have S := d.S
    have hpl : ps.length ≤ N.length := by have := congrArg List.length S.pre; rw [List.length_take] at this; omega
    refine d.F.okX S (fun vs H Q E h => ?_) (fun cdv A outer s H vs Q E hr h => ?_)
    · obtain ⟨_, _, _, _, h, _⟩ := h
      exact h
    · obtain ⟨Pf, args, t, ra, hl, h⟩ := h
      have hla : args.length = fb.np := by rw [d.np, ← hl]; exact ra.length
      have g : GC T N CA (callF FT n) (defScope st) true (cxOf (L2.CX P w) P w K mg base N x (defScope st) ad cdv A outer s H E) :=
        { hN := rfl, nd := S.nd, so := .refl, cm := fun _ => rfl
          un := by have := hr.un; show (A.deeper _).units + 64 < _; omega
          dp := by have := hr.dp; show (A.deeper _).depth + 100 < _; omega
          seer := Tx.seer, tree := Tx.tree
          stk := ⟨_, _, rfl, S.gen, S.co, rfl, rfl⟩
          cf := Tx.cf
          fns := fun _ y j np hy => by
            obtain ⟨st', N', ps', ad', fd', fb', d', rfl⟩ := D y j np hy
            exact ⟨n + 40, ad', fd', ps', rfl, d'.m, d'.F.kp, d'.b, fn_ok D Tx n j y st' N' ps' ad' fd' fb' d', hr⟩
          csts := Tx.csts, cls := Tx.cls, blt := Tx.blt, fn := fun _ _ => .inl rfl }
      have s : GS T N CA (callF FT n) (defScope st) true (cxOf (L2.CX P w) P w K mg base N x (defScope st) ad cdv A outer s H E) :=
        ⟨g, rfl, S.kind, rfl, rfl, rfl, passes_of rfl⟩
      obtain ⟨m, tr⟩ := d.tr
      refine ⟨_, ss_of (H0 := ⟨H, Pf⟩) (trS_ok m) s tr _ (takes_of rfl rfl rfl rfl), startE fb.nl args, Pf, er_start t ra d.nl (by rw [hl]; exact hpl), ?_⟩
      have e : callF FT (n + 1) k args = fin (evSs (callF FT n) fb.body (startE fb.nl args)) := by
        show (match FT k with | some d => if args.length = d.np then fin (evSs (callF FT n) d.body (startE d.nl args)) else .bad | none => .bad) = _
        rw [d.ft]
        exact if_pos hla
      rw [e] at h
      cases eo : evSs (callF FT n) fb.body (startE fb.nl args) with
      | nx env' =>
        rw [eo] at h
        intro σ' H' P' _ er
        exact h H' P' .non ⟨er.ext, er.gr, er.trk⟩ (.inl ⟨rfl, .non⟩)
      | brk env' => rw [eo] at h; exact h.elim
      | cnt env' => rw [eo] at h; exact h.elim
      | ret v fr => rw [eo] at h; exact h
      | exc c env' =>
        rw [eo] at h
        intro σ' H' P' C _ er hC
        exact h H' C er.ext hC
      | bad => rw [eo] at h; exact h.elim
/-- the law's promise from the table's answer -/
theorem law_sp {n k : Nat} {a : Addr} {ns : List Int} {H : Hp} (hS : SqK K H a (ns.map V.int)) (h : ∃ fr, callF FT n k [.scr ns] = .ok (.bl true, fr)) : spF K CA (callF FT n) k 1 [.ref a] H (fun v _ => v = .bl true) fun _ _ _ => False := by
  obtain ⟨fr, h⟩ := h
  refine ⟨fun _ => False, [.scr ns], fun _ z => z.elim, .cons (.scr hS) .nil, rfl, ?_⟩
  rw [h]
  intro H' P' x st r
  rcases r with ⟨_, r⟩ | ⟨_, _, _, _, e, _⟩
  · cases r; rfl
  · cases e
end
end G

set_option linter.all false
set_option maxHeartbeats 4000000
set_option maxRecDepth 100000
/-! G10: the law's call. -/
namespace G
open PySem PySem.Spec PyProof.Rows L2 HT
/-- the script's object as it is told -/
def scrO (vs : List Value) (ns : List Int) : HO := .frz { cls := .type "list", data := .seq vs.toArray } (.lst (ns.map V.int))
/-- what is told at the law's call: the script alone, where it is no object of the module -/
def scrH (K : PySem.W.Frag) (a : Addr) (vs : List Value) (ns : List Int) : Hp := fun b => if b = a ∧ K.lookup a = none then some (scrO vs ns) else none
section
variable {K : PySem.W.Frag} {a : Addr} {vs : List Value} {ns : List Int}
theorem scrH_some {b : Addr} {u : HO} (h : scrH K a vs ns b = some u) : b = a ∧ K.lookup a = none ∧ u = scrO vs ns := by
  unfold scrH at h
  split at h
  · rename_i q; cases h; exact ⟨q.1, q.2, rfl⟩
  · cases h
theorem scrH_none {b : Addr} (h : b ≠ a ∨ K.lookup a ≠ none) : scrH K a vs ns b = none := by
  cases e : scrH K a vs ns b with
  | none => rfl
  | some u =>
    obtain ⟨h1, h2, _⟩ := scrH_some e
    rcases h with h | h
    · exact absurd h1 h
    · exact absurd h2 h
end
theorem law_callG {P : Program} {w : World} {K : PySem.W.Frag} {mg mb : Str → Option Value} {CX : CXT} {k : Nat} {fa a : Addr} {fd : FuncData} {x : Str} {sp : Sp} {s₁ : Shared} {vs : List Value} {ns : List Int}
    (NS : s₁.heap.NoSeer) (KX : K.In s₁.heap) (hns : s₁.heap.Ns mainGlobals mg) (hb : s₁.heap.Ns builtinsNs mb) (hbb : ∀ x : Str, x ≠ "__name__" → mb x = bootBuiltins x) (hlim : s₁.heap.NoLimit) (hg : s₁.gens = #[])
    (ha : s₁.heap.get? a = some { cls := .type "list", data := .seq vs.toArray }) (hi : IntsAre vs ns) (hl : ns.length ≤ sizeLine) (hr : Room k callerA)
    (F : ∀ base : Heap, K.In base → base.Ns mainGlobals mg → base.NoSeer → FnOk P w K mg base CX k fa fd [x] sp) (hbind : ∀ (s : Shared) (u : Value), BindsTo s fd ⟨[u], []⟩ [(x, u)])
    (hsp : ∀ H : Hp, SqK K H a (ns.map V.int) → sp [.ref a] H (fun v _ => v = .bl true) fun _ _ _ => False)
    (hCX : ∀ H e s', CX [] H s₁ (fun _ _ _ => False) e s' → False) :
    codeAny (model P w) callerA (.call (.ref fa) ⟨[.ref a], []⟩) (fun r s' => r = .ok (.ret (.bool true)) ∧ OldK s₁.heap s'.heap ∧ s'.os = s₁.os ∧ AllBare s'.gens) s₁ := by
  have rv := vals_ints hi
  have hS : SqK K (scrH K a vs ns) a (ns.map V.int) := by
    cases hk : K.lookup a with
    | some o =>
      have e := KX a o hk
      rw [ha] at e; cases e
      exact .inr ⟨_, vs.toArray, _, hk, rfl, rfl, rfl, by rw [List.size_toArray, hi.length]; exact hl, by simpa using rv⟩
    | none => exact .inl ⟨_, if_pos ⟨rfl, hk⟩⟩
  have hok : HOk P w (scrH K a vs ns) s₁.heap := fun b u z => by
    obtain ⟨rfl, _, rfl⟩ := scrH_some z
    exact ⟨ha, by rw [List.length_map]; exact hl, vs, _, rv, ha⟩
  have old : ∀ {b : Addr} {o : Obj}, s₁.heap.get? b = some o → scrH K a vs ns b = none → (hidT s₁.heap (scrH K a vs ns)).get? b = some o := fun e n => hidT_get e n
  -- an object that is no list is not told
  have noL : ∀ {b : Addr} {o : Obj}, s₁.heap.get? b = some o → o.cls ≠ .type "list" ∨ (∃ es ep, o.data = .dict es ep) → scrH K a vs ns b = none := fun {b o} e d => by
    cases z : scrH K a vs ns b with
    | none => rfl
    | some u =>
      obtain ⟨rfl, _, _⟩ := scrH_some z
      rw [ha] at e; cases e
      rcases d with d | ⟨es, ep, d⟩
      · exact absurd rfl d
      · cases (show Data.seq vs.toArray _ = Data.dict es ep from d)
  have nsK : ∀ {b : Addr} {m : Str → Option Value}, s₁.heap.Ns b m → (hidT s₁.heap (scrH K a vs ns)).Ns b m := fun {b m} ⟨o, es, ep, e, d, r⟩ => ⟨o, es, ep, old e (noL e (.inr ⟨es, ep, d⟩)), d, r⟩
  have hKb : K.In (hidT s₁.heap (scrH K a vs ns)) := fun b o e => old (KX b o e) (scrH_none (by
    by_cases hb : b = a
    · subst hb; right; rw [e]; exact Option.some_ne_none _
    · exact .inl hb))
  have hM : Mod K mg (hidT s₁.heap (scrH K a vs ns)) := ⟨hKb, nsK hns, ⟨mb, nsK hb, hbb⟩, let ⟨mc, h1, h2⟩ := hlim; ⟨mc, nsK h1, h2⟩⟩
  have hN : (hidT s₁.heap (scrH K a vs ns)).NoSeer := by
    obtain ⟨⟨mc, c1, c2⟩, ⟨mm, m1, m2⟩, ⟨mi, i1, i2⟩, ⟨mo, bm, ob, o1, o2, o3, o4, o5⟩⟩ := NS
    exact ⟨⟨mc, nsK c1, c2⟩, ⟨mm, nsK m1, m2⟩, ⟨mi, nsK i1, i2⟩, ⟨mo, bm, ob, nsK o1, o2, old o3 (noL o3 (.inl (by rw [o4]; decide))), o4, o5⟩⟩
  have e0 : Env0 P w K mg (hidT s₁.heap (scrH K a vs ns)) callerA [] s₁ (scrH K a vs ns) :=
    ⟨rfl, hM, fun b o e => of_hidT e, Nat.le_of_eq (hidT_size _ _), trivial, fun b hb => absurd (show b ∈ ([] : List Addr) from hb) (by simp), hok, .of_eq hg⟩
  refine codeAny_mono ((F _ hKb (nsK hns) hN).run callerA [] s₁ _ ⟨[.ref a], []⟩ [.ref a] [.ref a] _ _ hr e0 (hbind s₁ (.ref a)) (.cons rfl .nil) (hsp _ hS)) fun r s' h => ?_
  cases r with
  | error e => exact (hCX _ e s' h).elim
  | ok fl =>
    cases fl with
    | next => exact False.elim h
    | brk => exact False.elim h
    | cont => exact False.elim h
    | ret u =>
      obtain ⟨v, H', os, bare, un, hok', r', q⟩ := h
      have q' : v = .bl true := q
      subst q'
      obtain rfl : u = Value.bool true := r'
      refine ⟨rfl, OldK.of_keep fun b o e => ?_, os, bare⟩
      cases z : scrH K a vs ns b with
      | none => exact un.keep b o e z (by intro z; exact absurd (show b ∈ ([] : List Addr) from z) (by simp)) (by simp)
      | some u =>
        obtain ⟨_, _, rfl⟩ := scrH_some z
        have z2 := un.frzs b _ _ z
        obtain ⟨e1, _⟩ := hok b _ z
        obtain ⟨e2, _⟩ := hok' b _ z2
        rw [e] at e1; cases e1
        exact e2
theorem walkG {l : PySem.W.OpenLaw} {n k : Nat} {q : Program} {loose : List Str} {XP : (Str → Option Value) → Heap → Prop} {YP : World → Heap → Prop} {d : DefRec} {K : Params → PySem.W.Frag} {CX : World → CXT} {sp : World → Sp} {x : Str}
    (hn : l.most = some n) (hn2 : n ≤ sizeLine) (hdf : d.params.defaults = []) (hr : Room k callerA) (hq : importsNone q = true)
    (hY : ∀ (w : World) (h : Heap), YP w h → (K w.params).In h)
    (F : ∀ (w : World) (mg : Str → Option Value) (fa : Addr) (h : Heap), (K w.params).In h → h.Ns mainGlobals mg → mg d.name = some (.ref fa) →
      ∃ fd : FuncData, (∀ (s : Shared) (u : Value), BindsTo s fd ⟨[u], []⟩ [(x, u)]) ∧
        ∀ base : Heap, (K w.params).In base → base.Ns mainGlobals mg → base.NoSeer → FnOk l.prog w (K w.params) mg base (CX w) k fa fd [x] (sp w))
    (hsp : ∀ (w : World) (H : Hp) (a : Addr) (ns : List Int), ns.length ≤ n → (∀ z ∈ ns, Builtin.Int.intBits z ≤ 1048576) → SqK (K w.params) H a (ns.map V.int) → sp w [.ref a] H (fun v _ => v = .bl true) fun _ _ _ => False)
    (hCX : ∀ (w : World) (H : Hp) (s : Shared) (e : Value) (s' : Shared), CX w [] H s (fun _ _ _ => False) e s' → False) :
    PySem.W.WalkO q loose XP YP l.row.toRowW d [] (fun f vs => PySem.call f vs) := by
  refine Att.attach_callB hn hdf fun w s₀ s₁ mg mb fa o pm cd doc a vs ns G Y ho hd hcd hmg hobj hints hlen hbits hg => ?_
  have KX := hY w _ Y
  obtain ⟨fd, hb, hF⟩ := F w mg fa _ KX G.T.g hmg
  exact law_callG (G.T.seer hq) KX G.T.g G.T.b G.T.builtins G.T.nolimit hg hobj hints (Nat.le_trans hlen hn2) hr hF hb (fun H hS => hsp w H a ns hlen hbits hS) fun H e s' => hCX w H s₁ e s'
end G

set_option linter.all false
set_option maxHeartbeats 4000000
set_option maxRecDepth 100000
/-! G11: the row's facts brought together. -/
namespace G
open PySem PySem.Spec PyProof.Rows L2 HT
section
variable {T : TC} {FT : Nat → Option FD} {K : PySem.W.Frag} {mg : Str → Option Value} {h : Heap}
def DfP (T : TC) (FT : Nat → Option FD) (K : PySem.W.Frag) (mg : Str → Option Value) (e : Str × (Nat × Nat)) : Prop :=
  ∃ st N ps ad fd fb, DOk T FT K mg e.2.1 e.1 st N ps ad fd fb ∧ ps.length = e.2.2
theorem lk_all {β : Type} {p : Str × β → Prop} {l : List (Str × β)} (h : ∀ e ∈ l, p e) : ∀ x b, l.lookup x = some b → p (x, b) := fun x b e => h _ (PySem.mem_of_lookup e)
theorem dfs_of (h : ∀ e ∈ T.fns, DfP T FT K mg e) : Dfs T FT K mg := fun x k np e => lk_all h x (k, np) e
theorem al_nil {α : Type} {p : α → Prop} : ∀ e ∈ ([] : List α), p e := fun _ h => by cases h
theorem al_cons {α : Type} {p : α → Prop} {a : α} {l : List α} (h1 : p a) (h2 : ∀ e ∈ l, p e) : ∀ e ∈ a :: l, p e := fun e h => by
  rcases List.mem_cons.mp h with rfl | h
  · exact h1
  · exact h2 e h
/-- what the text alone tells of a def -/
structure DTx (T : TC) (FT : Nat → Option FD) (k : Nat) (x : Str) (st : Stmt) (N ps : List Str) (fb : FD) : Prop where
  S : FnScope N ps (defScope st)
  b : ∀ (kV doc pm : Value) (an : Option Addr) (cdv ct : Value) (us : List Value), us.length = ps.length → bindArgs (PySem.W.fnOf x x (defArgs st) (defBody st) (defScope st) .none kV doc pm an cdv ct) ⟨us, []⟩ = pure (ps.zip us)
  np : fb.np = ps.length
  nl : fb.nl = N.length
  tr : trL (trS T N 60 true (defScope st)) (defBody st) = some fb.body
  ft : FT k = some fb
theorem df_mk {k : Nat} {x : Str} {st : Stmt} {N ps : List Str} {fb : FD} {f : Addr} {oc : Value} {od an : Option Addr} {osl : Array (Option Value)} {kV doc pm cdv ct : Value} (X : K.In h) (G : h.Ns mainGlobals mg) (d : DTx T FT k x st N ps fb)
    (a : PySem.W.nsIn K mainGlobals x = some (some (.ref f))) (l : K.lookup f = some ⟨oc, od, .func (PySem.W.fnOf x x (defArgs st) (defBody st) (defScope st) .none kV doc pm an cdv ct), osl⟩) (c : PySem.W.codeIn K cdv x = true) (kp : PySem.W.keepIn K (.ref f) = true) :
    DOk T FT K mg k x st N ps f (PySem.W.fnOf x x (defArgs st) (defBody st) (defScope st) .none kV doc pm an cdv ct) fb :=
  have F := fun_mk l c kp
  ⟨F, d.S, PySem.W.mg_of X G a, F.binds d.b, d.np, d.nl, ⟨60, d.tr⟩, d.ft⟩
/-- a class of the table -/
structure ClF (K : PySem.W.Frag) (mg : Str → Option Value) (C0 : Addr) (c : Nat) (x : Str) (C : Addr) : Prop where
  f : CF K C0 c C
  m : mg x = some (.ref C)
/-- the classes: CA by their list -/
def caOf (l : List (Nat × Addr)) : Nat → Option Addr := fun c => l.lookup c
theorem lookup_mem {l : List (Nat × Addr)} {c : Nat} {C : Addr} (h : l.lookup c = some C) : (c, C) ∈ l := by
  induction l with
  | nil => cases h
  | cons e l ih =>
    obtain ⟨d, D⟩ := e
    rw [List.lookup_cons] at h
    split at h
    · rename_i hb
      cases h
      have : c = d := by simpa using hb
      rw [this]; exact List.mem_cons_self
    · exact List.mem_cons_of_mem _ (ih h)
theorem snd_inj {l : List (Nat × Addr)} (nd : (l.map (·.2)).Nodup) {c d : Nat} {C : Addr} (h1 : (c, C) ∈ l) (h2 : (d, C) ∈ l) : c = d := by
  induction l with
  | nil => cases h1
  | cons e l ih =>
    rw [List.map_cons, List.nodup_cons] at nd
    rcases List.mem_cons.mp h1 with r1 | r1 <;> rcases List.mem_cons.mp h2 with r2 | r2
    · rw [← r1] at r2; cases r2; rfl
    · exact absurd (List.mem_map.mpr ⟨_, r2, rfl⟩) (by rw [← r1] at nd; exact nd.1)
    · exact absurd (List.mem_map.mpr ⟨_, r1, rfl⟩) (by rw [← r2] at nd; exact nd.1)
    · exact ih nd.2 r1 r2
theorem cfs_of {C0 : Addr} {l : List (Nat × Addr)} (h0 : l.lookup 0 = some C0) (nd : (l.map (·.2)).Nodup) (h : ∀ e ∈ l, CF K C0 e.1 e.2) : CFs K (caOf l) where
  base := ⟨C0, h0, fun c C e => h (c, C) (lookup_mem e)⟩
  inj := fun c d C hc hd => snd_inj nd (lookup_mem hc) (lookup_mem hd)
/-- the facts of a class by number, as they are found -/
structure CFt (K : PySem.W.Frag) (C0 : Addr) (c : Nat) (C : Addr) (cd : ClassData) : Prop where
  c1 : PySem.W.clsIn K C = some cd
  c2 : cd.mro = (if c = 0 then [.ref C] else [.ref C, .ref C0]) ++ PySem.HandSPX.veTail
  ty : PySem.W.typeIn K (.ref C) = some (.type "type")
  hg : PySem.W.findIn K (.ref C) "__getattribute__" = some (some (.builtin "BaseException.__getattribute__"))
  hk : PySem.W.findIn K (.ref C) "__getattr__" = some none
  hs : PySem.W.subIn K (.ref C) (.type "BaseException") = some true
  hd : PySem.W.hasDictIn K C = true
  ha : PySem.W.findIn K (.ref C) "__class__" = some (some (.builtin "object.__class__"))
  hm : PySem.W.mroIn K C (.type "object") = some true
  made : PySem.W.excIn K C [.type "ValueError", .type "Exception", .type "BaseException", .type "object"] "ValueError.__new__" = true
  kp : PySem.W.keepIn K (.ref C) = true
theorem CFt.cf {C0 : Addr} {c : Nat} {C : Addr} {cd : ClassData} (h : CFt K C0 c C cd) (hn : PySem.W.specialIn K (.builtin "object.__class__") "__get__" = some (some (.builtin "getset_descriptor.__get__"))) (ht : PySem.W.takesIn K (.builtin "object.__class__") = some true) : CF K C0 c C :=
  ⟨⟨cd, h.c1, h.c2⟩, h.ty, ⟨h.hg, h.hk, h.hs, h.hd, h.ha, hn, ht, h.hm⟩, h.made, h.kp⟩
theorem lk_cls {l : List (Nat × Addr)} {xs : List (Str × Nat)} (h : ∀ e ∈ xs, ∃ C, caOf l e.2 = some C ∧ mg e.1 = some (.ref C)) : ∀ x k, xs.lookup x = some k → ∃ C, caOf l k = some C ∧ mg x = some (.ref C) := fun x k e => lk_all (p := fun e => ∃ C, caOf l e.2 = some C ∧ mg e.1 = some (.ref C)) h x k e
/-- a tuple of the module -/
structure TupK (o : Obj) (its : Array Value) (n : Nat) (xs : List V) : Prop where
  c : o.cls = .type "tuple"
  e : o.data = .seq its n
  s : its.size ≤ sizeLine
  v : Vals xs its.toList
theorem TupK.sq {o : Obj} {its : Array Value} {n : Nat} {xs : List V} {a : Addr} {H : Hp} (t : TupK o its n xs) (l : K.lookup a = some o) : SqT K H a xs := .inr ⟨o, its, n, l, t.c, t.e, t.s, t.v⟩
end
theorem cx_no {P : World → Program} (w : World) (H : Hp) (s : Shared) (e : Value) (s' : Shared) : L2.CX (P w) w [] H s (fun _ _ _ => False) e s' → False := fun h => by
  obtain ⟨_, _, _, _, _, _, _, _, _, _, _, _, z⟩ := h
  exact z.elim
theorem walkL {l : PySem.W.OpenLaw} {n k m f : Nat} {q : Program} {loose : List Str} {XP : (Str → Option Value) → Heap → Prop} {YP : World → Heap → Prop} {d : DefRec} {K : Params → PySem.W.Frag} {FT : Nat → Option FD} {x : Str} (hn : l.most = some n) (hn2 : n ≤ sizeLine) (hdf : d.params.defaults = []) (hr : Room k callerA) (hq : importsNone q = true)
    (plain : ∀ ns : List Int, ns.length ≤ n → (∀ z ∈ ns, Builtin.Int.intBits z ≤ 1048576) → ∃ fr, callF FT m f [.scr ns] = .ok (.bl true, fr)) (hY : ∀ (w : World) (h : Heap), YP w h → (K w.params).In h)
    (F : ∀ (w : World) (mg : Str → Option Value) (fa : Addr) (h : Heap), (K w.params).In h → h.Ns mainGlobals mg → mg d.name = some (.ref fa) → ∃ (fd : FuncData) (CA : Nat → Option Addr), (∀ (s : Shared) (u : Value), BindsTo s fd ⟨[u], []⟩ [(x, u)]) ∧
      ∀ base : Heap, (K w.params).In base → base.Ns mainGlobals mg → base.NoSeer → FnOk l.prog w (K w.params) mg base (L2.CX l.prog w) k fa fd [x] (spF (K w.params) CA (callF FT m) f 1)) : PySem.W.WalkO q loose XP YP l.row.toRowW d [] (fun f vs => PySem.call f vs) := by
  refine Att.attach_callB hn hdf fun w s₀ s₁ mg mb fa o pm cd doc a vs ns G Y ho hd hcd hmg hobj hints hlen hbits hg => ?_
  have KX := hY w _ Y
  obtain ⟨fd, CA, hb, hF⟩ := F w mg fa _ KX G.T.g hmg
  exact law_callG (G.T.seer hq) KX G.T.g G.T.b G.T.builtins G.T.nolimit hg hobj hints (Nat.le_trans hlen hn2) hr hF hb (fun H hS => law_sp hS (plain ns hlen hbits)) fun H e s' => cx_no (P := fun _ => l.prog) w H s₁ e s'
end G

set_option linter.all false
set_option maxHeartbeats 1000000
/-! M1: fractions, plain. -/
namespace G
/-- the fraction's top and bottom by the divisor -/
theorem divInt_num {a b : Int} (hb : 0 < b) : (Rat.divInt a b).num = a.fdiv (Int.gcd a b) := by
  rw [Rat.num_divInt, Int.sign_eq_one_of_pos hb, Int.one_mul, Int.gcd_comm, Int.fdiv_eq_ediv_of_nonneg _ (Int.natCast_nonneg _)]
theorem divInt_den {a b : Int} (hb : 0 < b) : ((Rat.divInt a b).den : Int) = b.fdiv (Int.gcd a b) := by
  rw [Rat.den_divInt, if_neg (by omega), Int.gcd_comm, Int.fdiv_eq_ediv_of_nonneg _ (Int.natCast_nonneg _), Int.natCast_ediv]
  have : ((b.natAbs : Nat) : Int) = b := Int.natAbs_of_nonneg (by omega)
  rw [this]
theorem gcd_pos {a b : Int} (hb : b ≠ 0) : 0 < Int.gcd a b := Nat.pos_of_ne_zero fun h => hb (Int.gcd_eq_zero_iff.mp h).2
theorem den_pos (q : Rat) : 0 < (q.den : Int) := Int.natCast_pos.mpr q.den_pos
theorem den_ne (q : Rat) : (q.den : Int) ≠ 0 := by have := den_pos q; omega
theorem plus_eq (p q : Rat) : Rat.divInt (p.num * q.den + q.num * p.den) (p.den * q.den) = p + q := by
  rw [← Rat.divInt_add_divInt _ _ (den_ne p) (den_ne q), Rat.num_divInt_den, Rat.num_divInt_den]
theorem minus_eq (p q : Rat) : Rat.divInt (p.num * q.den - q.num * p.den) (p.den * q.den) = p - q := by
  rw [← Rat.divInt_sub_divInt _ _ (den_ne p) (den_ne q), Rat.num_divInt_den, Rat.num_divInt_den]
theorem times_eq (p q : Rat) : Rat.divInt (p.num * q.num) (p.den * q.den) = p * q := by
  rw [← Rat.divInt_mul_divInt, Rat.num_divInt_den, Rat.num_divInt_den]
theorem over_eq (p q : Rat) : Rat.divInt (p.num * q.den) (p.den * q.num) = p / q := by
  rw [← Rat.divInt_mul_divInt, Rat.num_divInt_den, Rat.div_def, ← Rat.inv_divInt, Rat.num_divInt_den]
theorem divInt_neg_neg (a b : Int) : Rat.divInt (-a) (-b) = Rat.divInt a b := Rat.neg_divInt_neg ..
theorem num_zero {q : Rat} : q.num = 0 ↔ q = 0 := Rat.num_eq_zero
/-! ### sizes -/
/-- top and bottom below 2^n -/
def Bd (n : Nat) (q : Rat) : Prop := q.num.natAbs < 2 ^ n ∧ q.den < 2 ^ n
theorem Bd.mono {m n : Nat} {q : Rat} (h : Bd m q) (l : m ≤ n) : Bd n q :=
  ⟨Nat.lt_of_lt_of_le h.1 (Nat.pow_le_pow_right (by decide) l), Nat.lt_of_lt_of_le h.2 (Nat.pow_le_pow_right (by decide) l)⟩
theorem fdiv_le {a : Int} {g : Nat} : (a / (g : Int)).natAbs ≤ a.natAbs := by
  rcases Nat.eq_zero_or_pos g with h | h
  · subst h; simp
  · exact Int.natAbs_ediv_le_natAbs a g
theorem Bd.pos {n : Nat} {q : Rat} (h : Bd n q) : 0 < n := Nat.pos_of_ne_zero fun e => by
  have := h.2; have := q.den_pos; subst e; simp at *; omega
theorem Bd.divInt {n : Nat} {a b : Int} (hn : 0 < n) (ha : a.natAbs < 2 ^ n) (hb : b.natAbs < 2 ^ n) : Bd n (Rat.divInt a b) := by
  constructor
  · rw [Rat.num_divInt]
    refine Nat.lt_of_le_of_lt (Nat.le_trans fdiv_le ?_) ha
    rw [Int.natAbs_mul]
    have : b.sign.natAbs ≤ 1 := by
      rcases Int.lt_trichotomy b 0 with h | h | h
      · rw [Int.sign_eq_neg_one_of_neg h]; decide
      · subst h; decide
      · rw [Int.sign_eq_one_of_pos h]; decide
    calc b.sign.natAbs * a.natAbs ≤ 1 * a.natAbs := Nat.mul_le_mul_right _ this
      _ = a.natAbs := Nat.one_mul _
  · rw [Rat.den_divInt]
    split
    · exact Nat.lt_of_lt_of_le (by omega : 1 < 2 ^ 1) (Nat.pow_le_pow_right (by decide) hn)
    · exact Nat.lt_of_le_of_lt (Nat.div_le_self _ _) hb
theorem lt_mul {a b m n : Nat} (ha : a < 2 ^ m) (hb : b < 2 ^ n) : a * b < 2 ^ (m + n) := by
  rw [Nat.pow_add]
  exact Nat.mul_lt_mul'' ha hb
theorem Bd.cross {m n : Nat} {p q : Rat} (h : Bd m p) (k : Bd n q) : (p.num * q.den).natAbs < 2 ^ (m + n) := by
  rw [Int.natAbs_mul, Int.natAbs_natCast]; exact lt_mul h.1 k.2
theorem Bd.dens {m n : Nat} {p q : Rat} (h : Bd m p) (k : Bd n q) : ((p.den : Int) * q.den).natAbs < 2 ^ (m + n) := by
  rw [Int.natAbs_mul, Int.natAbs_natCast, Int.natAbs_natCast]; exact lt_mul h.2 k.2
theorem Bd.nums {m n : Nat} {p q : Rat} (h : Bd m p) (k : Bd n q) : (p.num * q.num).natAbs < 2 ^ (m + n) := by
  rw [Int.natAbs_mul]; exact lt_mul h.1 k.1
theorem natAbs_add_lt {a b : Int} {n : Nat} (ha : a.natAbs < 2 ^ n) (hb : b.natAbs < 2 ^ n) : (a + b).natAbs < 2 ^ (n + 1) := by
  rw [Nat.pow_succ]; omega
theorem natAbs_sub_lt {a b : Int} {n : Nat} (ha : a.natAbs < 2 ^ n) (hb : b.natAbs < 2 ^ n) : (a - b).natAbs < 2 ^ (n + 1) := by
  rw [Nat.pow_succ]; omega
theorem pow_up {a m n : Nat} (h : a < 2 ^ m) (l : m ≤ n) : a < 2 ^ n := Nat.lt_of_lt_of_le h (Nat.pow_le_pow_right (by decide) l)
theorem Bd.add {m n : Nat} {p q : Rat} (h : Bd m p) (k : Bd n q) : Bd (m + n + 1) (p + q) := by
  rw [← plus_eq]
  exact .divInt (by have := h.pos; omega) (natAbs_add_lt (h.cross k) (by have := k.cross h; rwa [Nat.add_comm] at this)) (pow_up (h.dens k) (Nat.le_succ _))
theorem Bd.sub {m n : Nat} {p q : Rat} (h : Bd m p) (k : Bd n q) : Bd (m + n + 1) (p - q) := by
  rw [← minus_eq]
  exact .divInt (by have := h.pos; omega) (natAbs_sub_lt (h.cross k) (by have := k.cross h; rwa [Nat.add_comm] at this)) (pow_up (h.dens k) (Nat.le_succ _))
theorem Bd.mul {m n : Nat} {p q : Rat} (h : Bd m p) (k : Bd n q) : Bd (m + n) (p * q) := by
  rw [← times_eq]
  exact .divInt (by have := h.pos; omega) (h.nums k) (h.dens k)
theorem Bd.div {m n : Nat} {p q : Rat} (h : Bd m p) (k : Bd n q) : Bd (m + n) (p / q) := by
  rw [← over_eq]
  exact .divInt (by have := h.pos; omega) (h.cross k) (by rw [Int.natAbs_mul, Int.natAbs_natCast]; exact lt_mul h.2 k.1)
theorem Bd.neg {m : Nat} {p : Rat} (h : Bd m p) : Bd m (-p) := ⟨by rw [Rat.neg_num, Int.natAbs_neg]; exact h.1, by rw [Rat.neg_den]; exact h.2⟩
theorem Bd.inv {m : Nat} {p : Rat} (h : Bd m p) : Bd m p⁻¹ := by
  have : p⁻¹ = Rat.divInt p.den p.num := by rw [← Rat.inv_divInt, Rat.num_divInt_den]
  rw [this]
  exact .divInt h.pos (by rw [Int.natAbs_natCast]; exact h.2) h.1
theorem log2_lt {a n : Nat} (h : a < 2 ^ n) : a.log2 ≤ n := by
  rcases Nat.eq_zero_or_pos a with z | z
  · subst z; exact Nat.zero_le _
  · exact Nat.le_of_lt ((Nat.log2_lt (by omega)).mpr h)
theorem mul_ok {a b : Int} {m n : Nat} (ha : a.natAbs < 2 ^ m) (hb : b.natAbs < 2 ^ n) (l : m + n < 134000000) : decide (a.natAbs.log2 + b.natAbs.log2 < 134000000) = true := by
  have := log2_lt ha
  have := log2_lt hb
  exact decide_eq_true (by omega)
/-! ### the divisor -/
theorem gcd_fmod (a b : Int) : Int.gcd b (a.fmod b) = Int.gcd a b := by
  rw [Int.fmod_def, Int.gcd_sub_mul_left_right, Int.gcd_comm]
theorem fmod_small {a b : Int} (hb : b ≠ 0) : (a.fmod b).natAbs < b.natAbs := by
  rcases Int.lt_or_gt_of_ne hb with h | h
  · have e : (-a).fmod (-b) = -(a.fmod b) := by
      rw [Int.fmod_def, Int.fmod_def, Int.neg_fdiv_neg, Int.neg_mul]; omega
    have h1 := Int.fmod_lt_of_pos (-a) (b := -b) (by omega)
    have h2 := Int.fmod_nonneg_of_pos (-a) (b := -b) (by omega)
    omega
  · have h1 := Int.fmod_lt_of_pos a h
    have h2 := Int.fmod_nonneg_of_pos a h
    omega
theorem gcd_abs_left {a b : Int} : Int.gcd (if a < 0 then -a else a) b = Int.gcd a b := by
  split
  · exact Int.neg_gcd
  · rfl
end G

set_option linter.all false
set_option maxHeartbeats 1000000
set_option maxRecDepth 10000
/-! F0: the evaluator's steps as rewriting rules. -/
namespace G
open PySem
section
variable {cl : Nat → List Val → R (Val × Bool)} {env : Env} {FT : Nat → Option FD}
theorem callF_s {n f : Nat} {d : FD} {vs : List Val} (h : FT f = some d) (hl : vs.length = d.np) : callF FT (n + 1) f vs = fin (evSs (callF FT n) d.body (startE d.nl vs)) := by
  show (match FT f with | some d => if vs.length = d.np then fin (evSs (callF FT n) d.body (startE d.nl vs)) else .bad | none => .bad) = _
  rw [h]; exact if_pos hl
/-- an operand's value -/
def vl (cl : Nat → List Val → R (Val × Bool)) (e : E) (env : Env) : R Val := opd env e (evE cl e env)
/-- a kept expression's value -/
def vlE (cl : Nat → List Val → R (Val × Bool)) (e : E) (env : Env) : R Val := (evE cl e env).map (·.1)
/-! ### steps that wait for a value -/
def andR (cl : Nat → List Val → R (Val × Bool)) (r : R Val) (b : E) (env : Env) : R Val := r.bind fun x => (toB x).bind fun k => if k then (vl cl b env).bind fun y => (toB y).bind fun k' => .ok (.bl k') else .ok (.bl false)
def orR (cl : Nat → List Val → R (Val × Bool)) (r : R Val) (b : E) (env : Env) : R Val := r.bind fun x => (toB x).bind fun k => if k then .ok (.bl true) else (vl cl b env).bind fun y => (toB y).bind fun k' => .ok (.bl k')
def ifxR (cl : Nat → List Val → R (Val × Bool)) (r : R Val) (a b : E) (env : Env) : R Val := r.bind fun x => (truth x).bind fun k => if k then (evE cl a env).map (·.1) else (evE cl b env).map (·.1)
def chnR (cl : Nat → List Val → R (Val × Bool)) (r : R Val) (o' : COp) (y : Val) (c : E) (env : Env) : R Val := r.bind fun z => (toB z).bind fun k => if k then (vl cl c env).bind fun w => evCmp o' y w else .ok (.bl false)
theorem map_fst_pair {r : R Val} {f : Val → Bool} : (r.map fun v => (v, f v)).map (·.1) = r := by cases r <;> rfl
theorem bind_map_fst {α : Type} {r : R α} {f : α → R (Val × Bool)} : (r.bind f).map (·.1) = r.bind fun a => (f a).map (·.1) := by cases r <;> rfl
theorem vl_nm {i : Nat} : vl cl (.nm i) env = lookF env i := by
  show ((lookF env i).map fun v => (v, false)).map (·.1) = _
  exact map_fst_pair
theorem vl_bor {i : Nat} : vl cl (.bor i) env = look env i := rfl
theorem vl_cst {v : Val} : vl cl (.cst v) env = .ok v := rfl
theorem vl_bin {o : BOp} {a b : E} : vl cl (.bin o a b) env = (vl cl a env).bind fun x => (vl cl b env).bind fun y => evBin o x y := by
  show ((vl cl a env).bind fun x => (vl cl b env).bind fun y => (evBin o x y).map fun v => (v, isLst v)).map (·.1) = _
  simp only [bind_map_fst, map_fst_pair]
theorem vl_neg {a : E} : vl cl (.neg a) env = (vl cl a env).bind fun x => (toI x).bind fun i => .ok (.int (-i)) := by
  show ((vl cl a env).bind fun x => (toI x).bind fun i => R.ok (Val.int (-i), false)).map (·.1) = _
  simp only [bind_map_fst, R.map_ok]
theorem vl_cmp {o : COp} {a b : E} : vl cl (.cmp o a b) env = (vl cl a env).bind fun x => (vl cl b env).bind fun y => evCmp o x y := by
  show ((vl cl a env).bind fun x => (vl cl b env).bind fun y => (evCmp o x y).map fun v => (v, false)).map (·.1) = _
  simp only [bind_map_fst, map_fst_pair]
theorem vl_isn {n : Bool} {a : E} : vl cl (.isn n a) env = (vl cl a env).bind fun x => .ok (.bl (if n then !isNon x else isNon x)) := by
  show ((vl cl a env).bind fun x => R.ok (Val.bl (if n then !isNon x else isNon x), false)).map (·.1) = _
  simp only [bind_map_fst, R.map_ok]
theorem vl_chn {o o' : COp} {a b c : E} : vl cl (.chn o o' a b c) env = (vl cl a env).bind fun x => (vl cl b env).bind fun y => chnR cl (evCmp o x y) o' y c env := by
  show ((vl cl a env).bind fun x => (vl cl b env).bind fun y => (evCmp o x y).bind fun z => (toB z).bind fun k => if k then (vl cl c env).bind fun w => (evCmp o' y w).map (·, false) else R.ok (Val.bl false, false)).map (·.1) = _
  unfold chnR
  simp only [bind_map_fst, R.map_ok, apply_ite, map_fst_pair]
theorem vl_inn {n : Bool} {a b : E} : vl cl (.inn n a b) env = (vl cl a env).bind fun x => (vl cl b env).bind fun y => evIn n x y := by
  show ((vl cl a env).bind fun x => (vl cl b env).bind fun y => (evIn n x y).map fun v => (v, false)).map (·.1) = _
  simp only [bind_map_fst, map_fst_pair]
theorem vl_and {a b : E} : vl cl (.and a b) env = andR cl (vl cl a env) b env := by
  show ((vl cl a env).bind fun x => (toB x).bind fun k => if k then (vl cl b env).bind fun y => (toB y).bind fun k' => R.ok (Val.bl k', false) else R.ok (Val.bl false, false)).map (·.1) = _
  unfold andR
  simp only [bind_map_fst]
  congr; funext x; congr; funext k
  split <;> simp only [bind_map_fst, R.map_ok]
theorem vl_or {a b : E} : vl cl (.or a b) env = orR cl (vl cl a env) b env := by
  show ((vl cl a env).bind fun x => (toB x).bind fun k => if k then R.ok (Val.bl true, false) else (vl cl b env).bind fun y => (toB y).bind fun k' => R.ok (Val.bl k', false)).map (·.1) = _
  unfold orR
  simp only [bind_map_fst]
  congr; funext x; congr; funext k
  split <;> simp only [bind_map_fst, R.map_ok]
theorem vl_not {a : E} : vl cl (.not a) env = (vl cl a env).bind fun x => (toB x).bind fun k => .ok (.bl (!k)) := by
  show ((vl cl a env).bind fun x => (toB x).bind fun k => R.ok (Val.bl (!k), false)).map (·.1) = _
  simp only [bind_map_fst, R.map_ok]
theorem vl_ifx {c a b : E} : vl cl (.ifx c a b) env = ifxR cl (vl cl c env) a b env := by
  show ((vl cl c env).bind fun x => (truth x).bind fun k => if k then (evE cl a env).map fun p => (p.1, false) else (evE cl b env).map fun p => (p.1, false)).map (·.1) = _
  unfold ifxR
  simp only [bind_map_fst]
  congr; funext x; congr; funext k
  split <;> simp only [R.map_map]
theorem vl_ix {a b : E} : vl cl (.ix a b) env = (vl cl a env).bind fun x => (vl cl b env).bind fun y => evIx x y := by
  show ((vl cl a env).bind fun x => (vl cl b env).bind fun y => (evIx x y).map fun v => (v, false)).map (·.1) = _
  simp only [bind_map_fst, map_fst_pair]
theorem vl_slc {a : E} {lo hi : Option E} : vl cl (.slc a lo hi) env = (vl cl a env).bind fun x => (evO cl lo env).bind fun l => (evO cl hi env).bind fun h => evSlc l h x := by
  show ((vl cl a env).bind fun x => (evO cl lo env).bind fun l => (evO cl hi env).bind fun h => (evSlc l h x).map fun v => (v, isLst v)).map (·.1) = _
  simp only [bind_map_fst, map_fst_pair]
theorem vl_rev {a : E} : vl cl (.rev a) env = (vl cl a env).bind evRev := by
  show ((vl cl a env).bind fun x => (evRev x).map fun v => (v, isLst v)).map (·.1) = _
  simp only [bind_map_fst, map_fst_pair]
theorem vl_tup {as : List E} : vl cl (.tup as) env = (evEs cl as env).bind fun vs => .ok (.tup vs) := by
  show ((evEs cl as env).bind fun vs => R.ok (Val.tup vs, false)).map (·.1) = _
  simp only [bind_map_fst, R.map_ok]
theorem vl_lst {as : List E} : vl cl (.lst as) env = (evEs cl as env).bind fun vs => .ok (.lst vs) := by
  show ((evEs cl as env).bind fun vs => R.ok (Val.lst vs, true)).map (·.1) = _
  simp only [bind_map_fst, R.map_ok]
theorem vl_call {f : Nat} {as : List E} : vl cl (.call f as) env = ((evAs cl as env).bind fun vs => evCall cl env f as vs).map (·.1) := rfl
theorem vl_blt {f : Bf} {as : List E} : vl cl (.blt f as) env = (evAs cl as env).bind fun vs => evBf f vs := by
  show ((evAs cl as env).bind fun vs => (evBf f vs).map fun v => (v, isLst v)).map (·.1) = _
  simp only [bind_map_fst, map_fst_pair]
theorem vl_isi {a : E} {cs : List Cl} : vl cl (.isi a cs) env = (vl cl a env).bind fun x => (isiA x cs).bind fun b => .ok (.bl b) := by
  show ((vl cl a env).bind fun x => (isiA x cs).bind fun b => R.ok (Val.bl b, false)).map (·.1) = _
  simp only [bind_map_fst, R.map_ok]
/-- a comprehension, its source told -/
def lcR (cl : Nat → List Val → R (Val × Bool)) (r : R (List Val)) (tg : Tg) (cond : Option E) (el : E) (env : Env) : R Val := r.bind fun xs => if !lenOk xs.length then .bad else (lcLoop tg (wipeE env (tgs tg)) (fun env' => (evC cl cond env').noexc) (fun env' => ((evE cl el env').map (·.1)).noexc) xs).bind fun vs => .ok (.lst vs)
theorem vl_lc {tg : Tg} {it : It} {cond : Option E} {el : E} : vl cl (.lc tg it cond el) env = lcR cl (evIt cl it env) tg cond el env := by
  show ((evIt cl it env).bind fun xs => if !lenOk xs.length then .bad else (lcLoop tg (wipeE env (tgs tg)) (fun env' => (evC cl cond env').noexc) (fun env' => ((evE cl el env').map (·.1)).noexc) xs).bind fun vs => R.ok (Val.lst vs, true)).map (·.1) = _
  unfold lcR
  simp only [bind_map_fst]
  congr; funext xs
  split <;> simp only [bind_map_fst, R.map_ok, R.map_bad]
/-! ### a value that is kept: its flag -/
theorem ev_nm {i : Nat} : evE cl (.nm i) env = (lookF env i).map (·, false) := rfl
theorem ev_cst {v : Val} : evE cl (.cst v) env = .ok (v, false) := rfl
theorem ev_bin {o : BOp} {a b : E} : evE cl (.bin o a b) env = (vl cl (.bin o a b) env).map fun v => (v, isLst v) := by
  rw [vl_bin]
  show ((vl cl a env).bind fun x => (vl cl b env).bind fun y => (evBin o x y).map fun v => (v, isLst v)) = _
  simp only [R.map_bind]
theorem ev_neg {a : E} : evE cl (.neg a) env = (vl cl (.neg a) env).map (·, false) := by
  rw [vl_neg]
  show ((vl cl a env).bind fun x => (toI x).bind fun i => R.ok (Val.int (-i), false)) = _
  simp only [R.map_bind, R.map_ok]
theorem ev_cmp {o : COp} {a b : E} : evE cl (.cmp o a b) env = (vl cl (.cmp o a b) env).map (·, false) := by
  rw [vl_cmp]
  show ((vl cl a env).bind fun x => (vl cl b env).bind fun y => (evCmp o x y).map fun v => (v, false)) = _
  simp only [R.map_bind]
theorem ev_isn {n : Bool} {a : E} : evE cl (.isn n a) env = (vl cl (.isn n a) env).map (·, false) := by
  rw [vl_isn]
  show ((vl cl a env).bind fun x => R.ok (Val.bl (if n then !isNon x else isNon x), false)) = _
  simp only [R.map_bind, R.map_ok]
theorem ev_chn {o o' : COp} {a b c : E} : evE cl (.chn o o' a b c) env = (vl cl (.chn o o' a b c) env).map (·, false) := by
  show _ = ((evE cl (.chn o o' a b c) env).map (·.1)).map (·, false)
  have : ∀ p, evE cl (.chn o o' a b c) env = .ok p → p.2 = false := fun p h => by
    obtain ⟨x, _, h⟩ := R.bind_eq_ok (show ((vl cl a env).bind fun x => (vl cl b env).bind fun y => (evCmp o x y).bind fun z => (toB z).bind fun k => if k then (vl cl c env).bind fun w => (evCmp o' y w).map (·, false) else R.ok (Val.bl false, false)) = .ok p from h)
    obtain ⟨y, _, h⟩ := R.bind_eq_ok h
    obtain ⟨z, _, h⟩ := R.bind_eq_ok h
    obtain ⟨k, _, h⟩ := R.bind_eq_ok h
    split at h
    · obtain ⟨w, _, h⟩ := R.bind_eq_ok h
      cases e : evCmp o' y w <;> rw [e] at h <;> cases h; rfl
    · cases h; rfl
  cases e : evE cl (.chn o o' a b c) env with
  | ok p => obtain ⟨v, f⟩ := p; cases (this _ e); rfl
  | exc c => rfl
  | bad => rfl
theorem ev_flag {e : E} (h : ∀ p, evE cl e env = .ok p → p.2 = false) (hb : ∀ i, e ≠ .bor i) : evE cl e env = (vl cl e env).map (·, false) := by
  have : vl cl e env = (evE cl e env).map (·.1) := by
    unfold vl opd
    split
    · rename_i i; exact absurd rfl (hb i)
    · rfl
  rw [this]
  cases e1 : evE cl e env with
  | ok p => obtain ⟨v, f⟩ := p; cases (h _ e1); rfl
  | exc c => rfl
  | bad => rfl
theorem ev_inn {n : Bool} {a b : E} : evE cl (.inn n a b) env = (vl cl (.inn n a b) env).map (·, false) := by
  rw [vl_inn]
  show ((vl cl a env).bind fun x => (vl cl b env).bind fun y => (evIn n x y).map fun v => (v, false)) = _
  simp only [R.map_bind]
theorem ev_and {a b : E} : evE cl (.and a b) env = (vl cl (.and a b) env).map (·, false) := ev_flag (fun p h => by
  obtain ⟨x, _, h⟩ := R.bind_eq_ok (show ((vl cl a env).bind fun x => (toB x).bind fun k => if k then (vl cl b env).bind fun y => (toB y).bind fun k' => R.ok (Val.bl k', false) else R.ok (Val.bl false, false)) = .ok p from h)
  obtain ⟨k, _, h⟩ := R.bind_eq_ok h
  split at h
  · obtain ⟨w, _, h⟩ := R.bind_eq_ok h
    obtain ⟨w, _, h⟩ := R.bind_eq_ok h
    cases h; rfl
  · cases h; rfl) (by intro i z; cases z)
theorem ev_or {a b : E} : evE cl (.or a b) env = (vl cl (.or a b) env).map (·, false) := ev_flag (fun p h => by
  obtain ⟨x, _, h⟩ := R.bind_eq_ok (show ((vl cl a env).bind fun x => (toB x).bind fun k => if k then R.ok (Val.bl true, false) else (vl cl b env).bind fun y => (toB y).bind fun k' => R.ok (Val.bl k', false)) = .ok p from h)
  obtain ⟨k, _, h⟩ := R.bind_eq_ok h
  split at h
  · cases h; rfl
  · obtain ⟨w, _, h⟩ := R.bind_eq_ok h
    obtain ⟨w, _, h⟩ := R.bind_eq_ok h
    cases h; rfl) (by intro i z; cases z)
theorem ev_not {a : E} : evE cl (.not a) env = (vl cl (.not a) env).map (·, false) := by
  rw [vl_not]
  show ((vl cl a env).bind fun x => (toB x).bind fun k => R.ok (Val.bl (!k), false)) = _
  simp only [R.map_bind, R.map_ok]
theorem ev_ifx {c a b : E} : evE cl (.ifx c a b) env = (vl cl (.ifx c a b) env).map (·, false) := ev_flag (fun p h => by
  obtain ⟨x, _, h⟩ := R.bind_eq_ok (show ((vl cl c env).bind fun x => (truth x).bind fun k => if k then (evE cl a env).map fun p => (p.1, false) else (evE cl b env).map fun p => (p.1, false)) = .ok p from h)
  obtain ⟨k, _, h⟩ := R.bind_eq_ok h
  split at h
  · cases e : evE cl a env <;> rw [e] at h <;> cases h; rfl
  · cases e : evE cl b env <;> rw [e] at h <;> cases h; rfl) (by intro i z; cases z)
theorem ev_ix {a b : E} : evE cl (.ix a b) env = (vl cl (.ix a b) env).map (·, false) := by
  rw [vl_ix]
  show ((vl cl a env).bind fun x => (vl cl b env).bind fun y => (evIx x y).map fun v => (v, false)) = _
  simp only [R.map_bind]
theorem ev_slc {a : E} {lo hi : Option E} : evE cl (.slc a lo hi) env = (vl cl (.slc a lo hi) env).map fun v => (v, isLst v) := by
  rw [vl_slc]
  show ((vl cl a env).bind fun x => (evO cl lo env).bind fun l => (evO cl hi env).bind fun h => (evSlc l h x).map fun v => (v, isLst v)) = _
  simp only [R.map_bind]
theorem ev_rev {a : E} : evE cl (.rev a) env = (vl cl (.rev a) env).map fun v => (v, isLst v) := by
  rw [vl_rev]
  show ((vl cl a env).bind fun x => (evRev x).map fun v => (v, isLst v)) = _
  simp only [R.map_bind]
theorem ev_tup {as : List E} : evE cl (.tup as) env = (evEs cl as env).bind fun vs => .ok (.tup vs, false) := rfl
theorem ev_lst {as : List E} : evE cl (.lst as) env = (evEs cl as env).bind fun vs => .ok (.lst vs, true) := rfl
theorem ev_call {f : Nat} {as : List E} : evE cl (.call f as) env = (evAs cl as env).bind fun vs => evCall cl env f as vs := rfl
theorem ev_blt {f : Bf} {as : List E} : evE cl (.blt f as) env = (vl cl (.blt f as) env).map fun v => (v, isLst v) := by
  rw [vl_blt]
  show ((evAs cl as env).bind fun vs => (evBf f vs).map fun v => (v, isLst v)) = _
  simp only [R.map_bind]
theorem ev_isi {a : E} {cs : List Cl} : evE cl (.isi a cs) env = (vl cl (.isi a cs) env).map (·, false) := by
  rw [vl_isi]
  show ((vl cl a env).bind fun x => (isiA x cs).bind fun b => R.ok (Val.bl b, false)) = _
  simp only [R.map_bind, R.map_ok]
theorem ev_lc {tg : Tg} {it : It} {cond : Option E} {el : E} : evE cl (.lc tg it cond el) env = (lcR cl (evIt cl it env) tg cond el env).map (·, true) := by
  show ((evIt cl it env).bind fun xs => if !lenOk xs.length then .bad else (lcLoop tg (wipeE env (tgs tg)) (fun env' => (evC cl cond env').noexc) (fun env' => ((evE cl el env').map (·.1)).noexc) xs).bind fun vs => R.ok (Val.lst vs, true)) = _
  unfold lcR
  simp only [R.map_bind]
  congr; funext xs
  split <;> simp only [R.map_bind, R.map_ok, R.map_bad]
theorem evEs_nil : evEs cl [] env = .ok [] := rfl
theorem evEs_cons {e : E} {es : List E} : evEs cl (e :: es) env = (evE cl e env).bind fun p => (evEs cl es env).bind fun vs => .ok (p.1 :: vs) := rfl
theorem evAs_nil : evAs cl [] env = .ok [] := rfl
theorem evAs_cons {e : E} {es : List E} : evAs cl (e :: es) env = (vl cl e env).bind fun v => (evAs cl es env).bind fun vs => .ok (v :: vs) := rfl
theorem evO_none : evO cl none env = .ok none := rfl
theorem evO_some {e : E} : evO cl (some e) env = (vl cl e env).bind fun x => (toI x).map some := rfl
theorem evC_none : evC cl none env = .ok true := rfl
theorem evC_some {e : E} : evC cl (some e) env = (vl cl e env).bind truth := rfl
theorem evIt_val {e : E} : evIt cl (.val e) env = (vl cl e env).bind itemsOf := rfl
theorem evIt_rng1 {a : E} : evIt cl (.rng1 a) env = (vl cl a env).bind fun x => (toI x).bind fun n => if rngOk n = true then .ok (rngV 0 n.toNat) else .bad := rfl
theorem evIt_rng2 {a b : E} : evIt cl (.rng2 a b) env = (vl cl a env).bind fun x => (vl cl b env).bind fun y => (toI x).bind fun m => (toI y).bind fun n => if (rngOk m && rngOk n) = true then .ok (rngV m (n - m).toNat) else .bad := rfl
theorem evIt_rvd {e : E} : evIt cl (.rvd e) env = (vl cl e env).bind fun x => (itemsOf x).map List.reverse := rfl
theorem evT_vl {e : E} : evT cl e env = (vl cl e env).bind truth := rfl
theorem andR_t {b : E} : andR cl (.ok (.bl true)) b env = (vl cl b env).bind fun y => (toB y).bind fun k' => .ok (.bl k') := rfl
theorem andR_f {b : E} : andR cl (.ok (.bl false)) b env = .ok (.bl false) := rfl
theorem orR_f {b : E} : orR cl (.ok (.bl false)) b env = (vl cl b env).bind fun y => (toB y).bind fun k' => .ok (.bl k') := rfl
theorem orR_t {b : E} : orR cl (.ok (.bl true)) b env = .ok (.bl true) := rfl
theorem ifxR_t {a b : E} : ifxR cl (.ok (.bl true)) a b env = (evE cl a env).map (·.1) := rfl
theorem ifxR_f {a b : E} : ifxR cl (.ok (.bl false)) a b env = (evE cl b env).map (·.1) := rfl
theorem chnR_t {o' : COp} {y : Val} {c : E} : chnR cl (.ok (.bl true)) o' y c env = (vl cl c env).bind fun w => evCmp o' y w := rfl
theorem chnR_f {o' : COp} {y : Val} {c : E} : chnR cl (.ok (.bl false)) o' y c env = .ok (.bl false) := rfl
/-! ### statements -/
noncomputable def thnS (cl : Nat → List Val → R (Val × Bool)) (o : O) (ss : List S) : O := match o with
  | .nx env => evSs cl ss env
  | o => o
noncomputable def ifO (cl : Nat → List Val → R (Val × Bool)) (r : R Bool) (a b : List S) (env : Env) : O := rO env r fun k => if k then evSs cl a env else evSs cl b env
noncomputable def forO (cl : Nat → List Val → R (Val × Bool)) (r : R (List Val)) (tg : Tg) (b : List S) (env : Env) : O := rO env r fun xs => forL tg (fun env' => evSs cl b env') xs env
noncomputable def whlO (cl : Nat → List Val → R (Val × Bool)) (c : E) (b : List S) (env : Env) : O := whl (fun env' => evT cl c env') (fun env' => evSs cl b env') env
def setO (r : R (Val × Bool)) (i : Nat) (env : Env) : O := rO env r fun p => .nx (put env i p.1 p.2)
def unpO (r : R (Val × Bool)) (is : List Nat) (env : Env) : O := rO env r fun p => match bindT (.tup is) env p.1 with
    | .ok env' => .nx env'
    | _ => .bad
noncomputable def tryO (cl : Nat → List Val → R (Val × Bool)) (o : O) (c n : Nat) (h : List S) : O := match o with
    | .exc x env' => if excSub x c then (match evSs cl h (put env' n (.exc x) false) with
      | .nx env2 => .nx (env2.set n none)
      | .ret v fr => .ret v fr
      | _ => .bad) else .exc x env'
    | o => o
theorem ss_nil' : evSs cl [] env = .nx env := rfl
theorem ss_cons' {s : S} {ss : List S} : evSs cl (s :: ss) env = thnS cl (evS cl s env) ss := by
  show (match evS cl s env with | .nx env' => evSs cl ss env' | o => o) = _
  unfold thnS
  cases evS cl s env <;> rfl
theorem thn_nx {ss : List S} : thnS cl (.nx env) ss = evSs cl ss env := rfl
theorem thn_ret {ss : List S} {v : Val} {f : Bool} : thnS cl (.ret v f) ss = .ret v f := rfl
theorem thn_exc {ss : List S} {c : Nat} : thnS cl (.exc c env) ss = .exc c env := rfl
theorem thn_bad {ss : List S} : thnS cl .bad ss = .bad := rfl
theorem s_set' {i : Nat} {e : E} : evS cl (.set i e) env = setO (evE cl e (frzE env e)) i (frzE env e) := rfl
theorem set_ok {v : Val} {f : Bool} {i : Nat} : setO (.ok (v, f)) i env = .nx (put env i v f) := rfl
theorem set_exc {c i : Nat} : setO (.exc c) i env = .exc c env := rfl
theorem s_unp' {is : List Nat} {e : E} : evS cl (.unp is e) env = unpO (evE cl e (frzE env e)) is (frzE env e) := rfl
theorem unp_ok {p : Val × Bool} {is : List Nat} : unpO (.ok p) is env = match bindT (.tup is) env p.1 with | .ok env' => .nx env' | _ => .bad := rfl
theorem s_ifs' {c : E} {a b : List S} : evS cl (.ifs c a b) env = ifO cl (evT cl c (frzE env c)) a b (frzE env c) := rfl
theorem if_t {a b : List S} : ifO cl (.ok true) a b env = evSs cl a env := rfl
theorem if_f {a b : List S} : ifO cl (.ok false) a b env = evSs cl b env := rfl
theorem s_for' {tg : Tg} {it : It} {b : List S} : evS cl (.for tg it b) env = if borI it = true then .bad else forO cl (evIt cl it (frzI env it)) tg b (frzI env it) := rfl
theorem for_ok {tg : Tg} {b : List S} {xs : List Val} : forO cl (.ok xs) tg b env = forL tg (fun env' => evSs cl b env') xs env := rfl
theorem s_whl' {c : E} {b : List S} : evS cl (.whl c b) env = whlO cl c b (frzE env c) := rfl
theorem s_ret' {e : E} : evS cl (.ret e) env = rO env (evRet cl e env) fun p => .ret p.1 p.2 := rfl
theorem s_retn' : evS cl .retn env = .ret .non false := rfl
theorem s_pass' : evS cl .pass env = .nx env := rfl
theorem s_rse' {c : Nat} : evS cl (.rse c) env = .exc c env := rfl
theorem s_exp' {e : E} : evS cl (.exp e) env = rO (frzE env e) (evE cl e (frzE env e)) fun _ => .nx (frzE env e) := rfl
theorem s_try' {b : List S} {c n : Nat} {h : List S} : evS cl (.trya b c n h) env = tryO cl (evSs cl b env) c n h := by
  unfold tryO
  show (match evSs cl b env with
    | O.exc x env' => if excSub x c then (match evSs cl h (put env' n (.exc x) false) with
      | O.nx env2 => O.nx (env2.set n none)
      | O.ret v fr => O.ret v fr
      | _ => O.bad) else O.exc x env'
    | o => o : O) = _
  cases evSs cl b env <;> rfl
theorem try_nx {c n : Nat} {h : List S} : tryO cl (.nx env) c n h = .nx env := rfl
theorem try_ret {c n : Nat} {h : List S} {v : Val} {f : Bool} : tryO cl (.ret v f) c n h = .ret v f := rfl
theorem try_exc {x c n : Nat} {h : List S} : tryO cl (.exc x env) c n h = if excSub x c = true then (match evSs cl h (put env n (.exc x) false) with
      | .nx env2 => .nx (env2.set n none)
      | .ret v fr => .ret v fr
      | _ => .bad) else .exc x env := rfl
theorem s_par' {i j : Nat} {a b : E} : evS cl (.par i j a b) env = rO (frzAll env (kept a ++ kept b)) (evEs cl [a, b] (frzAll env (kept a ++ kept b))) fun vs => match vs with
    | [x, y] => if i = j then .bad else .nx (put (put (frzAll env (kept a ++ kept b)) i x false) j y false)
    | _ => .bad := rfl
theorem s_par3' {i j k : Nat} {a b c : E} : evS cl (.par3 i j k a b c) env = rO (frzAll env (kept a ++ kept b ++ kept c)) (evEs cl [a, b, c] (frzAll env (kept a ++ kept b ++ kept c))) fun vs => match vs with
    | [x, y, z] => if i = j ∨ i = k ∨ j = k then .bad else .nx (put (put (put (frzAll env (kept a ++ kept b ++ kept c)) i x false) j y false) k z false)
    | _ => .bad := rfl
theorem s_six' {i : Nat} {k e : E} : evS cl (.six i k e) env = rO (frzE env e) (evE cl e (frzE env e)) fun p => rO (frzE env e) (ownL (frzE env e) i) fun xs => rO (frzE env e) ((vl cl k (frzE env e)).bind toI) fun k => rO (frzE env e) (ixPut xs k p.1) fun ys => .nx (put (frzE env e) i (.lst ys) true) := rfl
theorem s_app' {i : Nat} {e : E} : evS cl (.app i e) env = rO (frzE env e) (ownL (frzE env e) i) fun xs => rO (frzE env e) (evE cl e (frzE env e)) fun p => if lenOk (xs.length + 1) = true then .nx (put (frzE env e) i (.lst (xs ++ [p.1])) true) else .bad := rfl
theorem s_pop' {i : Nat} : evS cl (.pop i) env = rO env (ownL env i) fun xs => if xs.isEmpty = true then .bad else .nx (put env i (.lst xs.dropLast) true) := rfl
theorem s_popu' {is : List Nat} {i : Nat} : evS cl (.popu is i) env = rO env (ownL env i) fun xs => match xs.getLast? with
    | some v => if i ∈ is then .bad else match bindT (.tup is) (put env i (.lst xs.dropLast) true) v with
      | .ok env' => .nx env'
      | _ => .bad
    | none => .bad := rfl
theorem s_rev' {i : Nat} : evS cl (.rev i) env = rO env (ownL env i) fun xs => .nx (put env i (.lst xs.reverse) true) := rfl
theorem rO_ok {α : Type} {a : α} {f : α → O} : rO env (.ok a) f = f a := rfl
theorem rO_exc {α : Type} {c : Nat} {f : α → O} : rO env (.exc c) f = .exc c env := rfl
theorem ret_nm {i : Nat} : evRet cl (.nm i) env = match env[i]? with | some (some p) => .ok p | _ => .bad := rfl
theorem ret_bor {i : Nat} : evRet cl (.bor i) env = evE cl (.bor i) (frzE env (.bor i)) := rfl
theorem ret_cst {v : Val} : evRet cl (.cst v) env = evE cl (.cst v) (frzE env (.cst v)) := rfl
theorem ret_bin {o : BOp} {a b : E} : evRet cl (.bin o a b) env = evE cl (.bin o a b) (frzE env (.bin o a b)) := rfl
theorem ret_neg {a : E} : evRet cl (.neg a) env = evE cl (.neg a) (frzE env (.neg a)) := rfl
theorem ret_cmp {o : COp} {a b : E} : evRet cl (.cmp o a b) env = evE cl (.cmp o a b) (frzE env (.cmp o a b)) := rfl
theorem ret_isn {n : Bool} {a : E} : evRet cl (.isn n a) env = evE cl (.isn n a) (frzE env (.isn n a)) := rfl
theorem ret_chn {o o' : COp} {a b c : E} : evRet cl (.chn o o' a b c) env = evE cl (.chn o o' a b c) (frzE env (.chn o o' a b c)) := rfl
theorem ret_inn {n : Bool} {a b : E} : evRet cl (.inn n a b) env = evE cl (.inn n a b) (frzE env (.inn n a b)) := rfl
theorem ret_and {a b : E} : evRet cl (.and a b) env = evE cl (.and a b) (frzE env (.and a b)) := rfl
theorem ret_or {a b : E} : evRet cl (.or a b) env = evE cl (.or a b) (frzE env (.or a b)) := rfl
theorem ret_not {a : E} : evRet cl (.not a) env = evE cl (.not a) (frzE env (.not a)) := rfl
theorem ret_ifx {c a b : E} : evRet cl (.ifx c a b) env = evE cl (.ifx c a b) (frzE env (.ifx c a b)) := rfl
theorem ret_ix {a b : E} : evRet cl (.ix a b) env = evE cl (.ix a b) (frzE env (.ix a b)) := rfl
theorem ret_slc {a : E} {lo hi : Option E} : evRet cl (.slc a lo hi) env = evE cl (.slc a lo hi) (frzE env (.slc a lo hi)) := rfl
theorem ret_rev {a : E} : evRet cl (.rev a) env = evE cl (.rev a) (frzE env (.rev a)) := rfl
theorem ret_tup {as : List E} : evRet cl (.tup as) env = evE cl (.tup as) (frzE env (.tup as)) := rfl
theorem ret_lst {as : List E} : evRet cl (.lst as) env = evE cl (.lst as) (frzE env (.lst as)) := rfl
theorem ret_call {f : Nat} {as : List E} : evRet cl (.call f as) env = evE cl (.call f as) (frzE env (.call f as)) := rfl
theorem ret_blt {f : Bf} {as : List E} : evRet cl (.blt f as) env = evE cl (.blt f as) (frzE env (.blt f as)) := rfl
theorem ret_isi {a : E} {cs : List Cl} : evRet cl (.isi a cs) env = evE cl (.isi a cs) (frzE env (.isi a cs)) := rfl
theorem ret_lc {tg : Tg} {it : It} {c : Option E} {e : E} : evRet cl (.lc tg it c e) env = evE cl (.lc tg it c e) (frzE env (.lc tg it c e)) := rfl
theorem ret_ev {e : E} (h : ∀ i, e ≠ .nm i) : evRet cl e env = evE cl e (frzE env e) := by
  cases e <;> first | rfl | exact absurd rfl (h _)
theorem fin_nx : fin (.nx env) = .ok (.non, false) := rfl
theorem fin_ret {v : Val} {f : Bool} : fin (.ret v f) = .ok (v, f) := rfl
theorem fin_exc {c : Nat} : fin (.exc c env) = .exc c := rfl
/-! ### values -/
theorem b_add {i j : Int} : evBin .add (.int i) (.int j) = .ok (.int (i + j)) := rfl
theorem b_sub {i j : Int} : evBin .sub (.int i) (.int j) = .ok (.int (i - j)) := rfl
theorem b_mul {i j : Int} : evBin .mul (.int i) (.int j) = if mulOk i j = true then .ok (.int (i * j)) else .bad := rfl
theorem b_fdiv {i j : Int} : evBin .fdiv (.int i) (.int j) = if j = 0 then .bad else .ok (.int (i.fdiv j)) := rfl
theorem b_mod {i j : Int} : evBin .mod (.int i) (.int j) = if j = 0 then .bad else .ok (.int (i.fmod j)) := rfl
theorem b_pow {i j : Int} : evBin .pow (.int i) (.int j) = if powOk i j = true then .ok (.int (i ^ j.toNat)) else .bad := rfl
theorem b_addL {xs ys : List Val} : evBin .add (.lst xs) (.lst ys) = if lenOk (xs.length + ys.length) = true then .ok (.lst (xs ++ ys)) else .bad := rfl
theorem b_addT {xs ys : List Val} : evBin .add (.tup xs) (.tup ys) = if lenOk (xs.length + ys.length) = true then .ok (.tup (xs ++ ys)) else .bad := rfl
theorem b_mulL {xs : List Val} {k : Int} : evBin .mul (.lst xs) (.int k) = if (lenOk (xs.length * k.toNat) && decide (-1000000 ≤ k ∧ k ≤ 1000000)) = true then .ok (.lst (List.replicate k.toNat xs).flatten) else .bad := rfl
theorem c_lt {i j : Int} : evCmp .lt (.int i) (.int j) = .ok (.bl (decide (i < j))) := rfl
theorem c_le {i j : Int} : evCmp .le (.int i) (.int j) = .ok (.bl (decide (i ≤ j))) := rfl
theorem c_gt {i j : Int} : evCmp .gt (.int i) (.int j) = .ok (.bl (decide (j < i))) := rfl
theorem c_ge {i j : Int} : evCmp .ge (.int i) (.int j) = .ok (.bl (decide (j ≤ i))) := rfl
theorem truth_bl {b : Bool} : truth (.bl b) = .ok b := rfl
theorem toI_int {i : Int} : toI (.int i) = .ok i := rfl
theorem toB_bl {b : Bool} : toB (.bl b) = .ok b := rfl
theorem items_lst {xs : List Val} : itemsOf (.lst xs) = .ok xs := rfl
theorem items_tup {xs : List Val} : itemsOf (.tup xs) = .ok xs := rfl
theorem len_lst {xs : List Val} : evBf .len [.lst xs] = .ok (.int xs.length) := rfl
theorem len_tup {xs : List Val} : evBf .len [.tup xs] = .ok (.int xs.length) := rfl
theorem len_scr {xs : List Int} : evBf .len [.scr xs] = .ok (.int xs.length) := rfl
theorem abs_int {i : Int} : evBf .abs [.int i] = .ok (.int (if i < 0 then -i else i)) := rfl
theorem int_int {i : Int} : evBf .int [.int i] = .ok (.int i) := rfl
theorem int_bl {b : Bool} : evBf .int [.bl b] = .ok (.int (if b = true then 1 else 0)) := rfl
theorem list_lst {xs : List Val} : evBf .list [.lst xs] = .ok (.lst xs) := rfl
theorem list_tup {xs : List Val} : evBf .list [.tup xs] = .ok (.lst xs) := rfl
theorem list_scr {ns : List Int} : evBf .list [.scr ns] = .ok (.lst (ns.map .int)) := rfl
theorem tuple_lst {xs : List Val} : evBf .tuple [.lst xs] = .ok (.tup xs) := rfl
theorem tuple_tup {xs : List Val} : evBf .tuple [.tup xs] = .ok (.tup xs) := rfl
theorem max_int {i j : Int} : evBf .max2 [.int i, .int j] = .ok (.int (if j > i then j else i)) := rfl
theorem min_int {i j : Int} : evBf .min2 [.int i, .int j] = .ok (.int (if j < i then j else i)) := rfl
theorem ix_lst {xs : List Val} {i : Int} : evIx (.lst xs) (.int i) = ofO (L2.atI xs i) := rfl
theorem ix_tup {xs : List Val} {i : Int} : evIx (.tup xs) (.int i) = ofO (L2.atI xs i) := rfl
theorem ix_scr {ns : List Int} {i : Int} : evIx (.scr ns) (.int i) = ofO ((L2.atI ns i).map .int) := rfl
theorem ix_p0 {a b : Val} : evIx (.tup [a, b]) (.int 0) = .ok a := rfl
theorem ix_p1 {a b : Val} : evIx (.tup [a, b]) (.int 1) = .ok b := rfl
theorem okD_int {i : Int} : okD (.int i) = true := rfl
theorem okD_bl {b : Bool} : okD (.bl b) = true := rfl
theorem okD_non : okD .non = true := rfl
theorem eqv_int {i j : Int} : PyData.eqv (.int i) (.int j) = decide (i = j) := by
  first
    | rfl
    | simp [PyData.eqv]
theorem c_eqI {i j : Int} : evCmp .eq (.int i) (.int j) = .ok (.bl (decide (i = j))) := by
  show (if (okD (.int i) && okD (.int j)) = true then R.ok (Val.bl (PyData.eqv (dat (.int i)) (dat (.int j)))) else .bad) = _
  rw [okD_int, okD_int]
  show R.ok (Val.bl (PyData.eqv (.int i) (.int j))) = _
  rw [eqv_int]
theorem c_neI {i j : Int} : evCmp .ne (.int i) (.int j) = .ok (.bl (!decide (i = j))) := by
  show (if (okD (.int i) && okD (.int j)) = true then R.ok (Val.bl (!PyData.eqv (dat (.int i)) (dat (.int j)))) else .bad) = _
  rw [okD_int, okD_int]
  show R.ok (Val.bl (!PyData.eqv (.int i) (.int j))) = _
  rw [eqv_int]
/-! ### while -/
theorem whlN_more {c : Env → R Bool} {b : Env → O} : ∀ {n : Nat} {env : Env} {o : O}, whlN c b n env = some o → whlN c b (n + 1) env = some o
  | 0, _, _, h => by cases h
  | n + 1, env, o, h => by
    unfold whlN at h ⊢
    cases e : c env with
    | ok k =>
      rw [e] at h
      cases k with
      | false => exact h
      | true =>
        dsimp only at h ⊢
        cases e2 : b env with
        | nx env' => rw [e2] at h; exact whlN_more h
        | cnt env' => rw [e2] at h; exact whlN_more h
        | brk env' => rw [e2] at h; exact h
        | ret v f => rw [e2] at h; exact h
        | exc x env' => rw [e2] at h; exact h
        | bad => rw [e2] at h; exact h
    | exc x => rw [e] at h; exact h
    | bad => rw [e] at h; exact h
theorem whlN_le {c : Env → R Bool} {b : Env → O} {env : Env} {o : O} {m n : Nat} (l : m ≤ n) (h : whlN c b m env = some o) : whlN c b n env = some o := by
  induction l with
  | refl => exact h
  | step _ ih => exact whlN_more ih
theorem whl_eq {c : Env → R Bool} {b : Env → O} {env : Env} {o : O} {n : Nat} (h : whlN c b n env = some o) : whl c b env = o := by
  have hx : ∃ n o, whlN c b n env = some o := ⟨n, o, h⟩
  unfold whl
  rw [dif_pos hx]
  have h2 := Classical.choose_spec (Classical.choose_spec hx)
  have h3 := whlN_le (Nat.le_max_left (Classical.choose hx) n) h2
  have h4 := whlN_le (Nat.le_max_right (Classical.choose hx) n) h
  rw [h3] at h4
  exact Option.some.inj h4
theorem whl_no {c : Env → R Bool} {b : Env → O} {env : Env} (h : ¬ ∃ n o, whlN c b n env = some o) : whl c b env = .bad := by
  unfold whl; rw [dif_neg h]
theorem whl_f {c : Env → R Bool} {b : Env → O} {env : Env} (h : c env = .ok false) : whl c b env = .nx env := whl_eq (n := 1) (by unfold whlN; rw [h])
theorem whl_t {c : Env → R Bool} {b : Env → O} {env env' : Env} (h : c env = .ok true) (hb : b env = .nx env') : whl c b env = whl c b env' := by
  by_cases hx : ∃ n o, whlN c b n env' = some o
  · obtain ⟨n, o, e⟩ := hx
    rw [whl_eq e]
    exact whl_eq (n := n + 1) (by unfold whlN; rw [h, hb]; exact e)
  · rw [whl_no hx]
    refine whl_no fun ⟨n, o, e⟩ => ?_
    cases n with
    | zero => cases e
    | succ n => unfold whlN at e; rw [h, hb] at e; exact hx ⟨n, o, e⟩
theorem whl_r {c : Env → R Bool} {b : Env → O} {env : Env} {v : Val} {f : Bool} (h : c env = .ok true) (hb : b env = .ret v f) : whl c b env = .ret v f := whl_eq (n := 1) (by unfold whlN; rw [h, hb])
theorem whl_x {c : Env → R Bool} {b : Env → O} {env env' : Env} {x : Nat} (h : c env = .ok true) (hb : b env = .exc x env') : whl c b env = .exc x env' := whl_eq (n := 1) (by unfold whlN; rw [h, hb])
theorem whlO_f {c : E} {b : List S} (h : evT cl c env = .ok false) : whlO cl c b env = .nx env := whl_f h
theorem whlO_t {c : E} {b : List S} {env' : Env} (h : evT cl c env = .ok true) (hb : evSs cl b env = .nx env') : whlO cl c b env = whlO cl c b env' := whl_t h hb
theorem whlO_r {c : E} {b : List S} {v : Val} {f : Bool} (h : evT cl c env = .ok true) (hb : evSs cl b env = .ret v f) : whlO cl c b env = .ret v f := whl_r h hb
theorem whlO_x {c : E} {b : List S} {env' : Env} {x : Nat} (h : evT cl c env = .ok true) (hb : evSs cl b env = .exc x env') : whlO cl c b env = .exc x env' := whl_x h hb
/-! ### for -/
theorem forL_nil {tg : Tg} {b : Env → O} : forL tg b [] env = .nx env := rfl
/-- a for loop by its invariant over what is still ahead -/
theorem forL_inv {tg : Tg} {b : Env → O} (I : List Val → Env → Prop) {Q : O → Prop} (step : ∀ x xs env, I (x :: xs) env → ∃ env1, bindT tg env x = .ok env1 ∧ ((∃ env', b env1 = .nx env' ∧ I xs env') ∨ (∃ env', b env1 = .cnt env' ∧ I xs env') ∨ (∃ env', b env1 = .brk env' ∧ Q (.nx env')) ∨ ((∃ v f, b env1 = .ret v f) ∧ Q (b env1)) ∨ ((∃ c e, b env1 = .exc c e) ∧ Q (b env1)))) (fin : ∀ env, I [] env → Q (.nx env)) : ∀ xs env, I xs env → Q (forL tg b xs env)
  | [], env, h => fin env h
  | x :: xs, env, h => by
    obtain ⟨env1, e1, h1⟩ := step x xs env h
    show Q (match bindT tg env x with | .ok env1 => (match b env1 with | .nx env' => forL tg b xs env' | .cnt env' => forL tg b xs env' | .brk env' => .nx env' | o => o) | _ => .bad)
    rw [e1]
    rcases h1 with ⟨env', e2, h2⟩ | ⟨env', e2, h2⟩ | ⟨env', e2, h2⟩ | ⟨⟨v, f, e2⟩, h2⟩ | ⟨⟨c, e, e2⟩, h2⟩
    · dsimp only; rw [e2]; exact forL_inv I step fin xs env' h2
    · dsimp only; rw [e2]; exact forL_inv I step fin xs env' h2
    · dsimp only; rw [e2]; exact h2
    · dsimp only; rw [e2]; rw [e2] at h2; exact h2
    · dsimp only; rw [e2]; rw [e2] at h2; exact h2
theorem forL_cons {tg : Tg} {b : Env → O} {x : Val} {xs : List Val} {env1 env' : Env} (h1 : bindT tg env x = .ok env1) (h2 : b env1 = .nx env') : forL tg b (x :: xs) env = forL tg b xs env' := by
  show (match bindT tg env x with | .ok env1 => (match b env1 with | .nx env' => forL tg b xs env' | .cnt env' => forL tg b xs env' | .brk env' => .nx env' | o => o) | _ => .bad) = _
  rw [h1]; dsimp only; rw [h2]
theorem lc_nil {tg : Tg} {c : Env → R Bool} {f : Env → R Val} : lcLoop tg env c f [] = .ok [] := rfl
/-- a comprehension without a condition: each element by itself -/
theorem lc_map {tg : Tg} {c : Env → R Bool} {f : Env → R Val} (g : Val → Val) : ∀ xs : List Val, (∀ x ∈ xs, ∃ env1, bindT tg env x = .ok env1 ∧ c env1 = .ok true ∧ f env1 = .ok (g x)) → lcLoop tg env c f xs = .ok (xs.map g)
  | [], _ => rfl
  | x :: xs, h => by
    obtain ⟨env1, h1, h2, h3⟩ := h x List.mem_cons_self
    show ((bindT tg env x).bind fun env' => (c env').bind fun b => if b then (f env').bind fun v => (lcLoop tg env c f xs).bind fun vs => .ok (v :: vs) else lcLoop tg env c f xs) = _
    rw [h1, lc_map g xs fun y hy => h y (List.mem_cons_of_mem _ hy)]
    simp only [R.bind_ok, h2, h3, if_true, List.map_cons]
theorem lc_filter {tg : Tg} {c : Env → R Bool} {f : Env → R Val} (g : Val → Val) (p : Val → Bool) : ∀ xs : List Val, (∀ x ∈ xs, ∃ env1, bindT tg env x = .ok env1 ∧ c env1 = .ok (p x) ∧ (p x = true → f env1 = .ok (g x))) → lcLoop tg env c f xs = .ok ((xs.filter p).map g)
  | [], _ => rfl
  | x :: xs, h => by
    obtain ⟨env1, h1, h2, h3⟩ := h x List.mem_cons_self
    show ((bindT tg env x).bind fun env' => (c env').bind fun b => if b then (f env').bind fun v => (lcLoop tg env c f xs).bind fun vs => .ok (v :: vs) else lcLoop tg env c f xs) = _
    rw [h1, lc_filter g p xs fun y hy => h y (List.mem_cons_of_mem _ hy)]
    simp only [R.bind_ok, h2]
    cases hp : p x with
    | true => simp [h3 hp, List.filter_cons, hp]
    | false => simp [List.filter_cons, hp]
end
theorem isLst_int {i : Int} : isLst (.int i) = false := rfl
theorem isLst_bl {b : Bool} : isLst (.bl b) = false := rfl
theorem isLst_str {s : Str} : isLst (.str s) = false := rfl
theorem isLst_tup {xs : List Val} : isLst (.tup xs) = false := rfl
theorem isLst_non  : isLst (.non) = false := rfl
theorem isLst_scr {ns : List Int} : isLst (.scr ns) = false := rfl
theorem isLst_exc {c : Nat} : isLst (.exc c) = false := rfl
theorem isLst_lst {xs : List Val} : isLst (.lst xs) = true := rfl
theorem isNon_int {i : Int} : isNon (.int i) = false := rfl
theorem isNon_bl {b : Bool} : isNon (.bl b) = false := rfl
theorem isNon_str {s : Str} : isNon (.str s) = false := rfl
theorem isNon_tup {xs : List Val} : isNon (.tup xs) = false := rfl
theorem isNon_non  : isNon (.non) = true := rfl
theorem isNon_scr {ns : List Int} : isNon (.scr ns) = false := rfl
theorem isNon_exc {c : Nat} : isNon (.exc c) = false := rfl
theorem isNon_lst {xs : List Val} : isNon (.lst xs) = false := rfl
theorem pow_ev {j : Int} {n : Nat} (hj : j = n) (hn : n ≤ 1000) : evBin .pow (.int 10) (.int j) = .ok (.int (10 ^ n)) := by
  subst hj
  have : powOk 10 n = true := decide_eq_true ⟨by omega, by omega, by decide⟩
  rw [b_pow, if_pos this]; rfl
theorem p11 : evBin .pow (.int 10) (.int 11) = .ok (.int (10 ^ 11)) := pow_ev rfl (by decide)
theorem p12 : evBin .pow (.int 10) (.int 12) = .ok (.int (10 ^ 12)) := pow_ev rfl (by decide)
theorem p30 : evBin .pow (.int 10) (.int 30) = .ok (.int (10 ^ 30)) := pow_ev rfl (by decide)
theorem p42 : evBin .pow (.int 10) (.int 42) = .ok (.int (10 ^ 42)) := pow_ev rfl (by decide)
theorem p57 : evBin .pow (.int 10) (.int 57) = .ok (.int (10 ^ 57)) := pow_ev rfl (by decide)
theorem p59 : evBin .pow (.int 10) (.int 59) = .ok (.int (10 ^ 59)) := pow_ev rfl (by decide)
theorem is_tup_tuple {xs : List Val} : isiA (.tup xs) [.ty "tuple"] = .ok true := rfl
theorem is_tup_list {xs : List Val} : isiA (.tup xs) [.ty "list"] = .ok false := rfl
theorem is_tup_int {xs : List Val} : isiA (.tup xs) [.ty "int"] = .ok false := rfl
theorem is_tup_bool {xs : List Val} : isiA (.tup xs) [.ty "bool"] = .ok false := rfl
theorem is_tup_str {xs : List Val} : isiA (.tup xs) [.ty "str"] = .ok false := rfl
theorem is_lst_tuple {xs : List Val} : isiA (.lst xs) [.ty "tuple"] = .ok false := rfl
theorem is_lst_list {xs : List Val} : isiA (.lst xs) [.ty "list"] = .ok true := rfl
theorem is_lst_int {xs : List Val} : isiA (.lst xs) [.ty "int"] = .ok false := rfl
theorem is_lst_bool {xs : List Val} : isiA (.lst xs) [.ty "bool"] = .ok false := rfl
theorem is_lst_str {xs : List Val} : isiA (.lst xs) [.ty "str"] = .ok false := rfl
theorem is_int_tuple {i : Int} : isiA (.int i) [.ty "tuple"] = .ok false := rfl
theorem is_int_list {i : Int} : isiA (.int i) [.ty "list"] = .ok false := rfl
theorem is_int_int {i : Int} : isiA (.int i) [.ty "int"] = .ok true := rfl
theorem is_int_bool {i : Int} : isiA (.int i) [.ty "bool"] = .ok false := rfl
theorem is_int_str {i : Int} : isiA (.int i) [.ty "str"] = .ok false := rfl
theorem is_bl_tuple {b : Bool} : isiA (.bl b) [.ty "tuple"] = .ok false := rfl
theorem is_bl_list {b : Bool} : isiA (.bl b) [.ty "list"] = .ok false := rfl
theorem is_bl_int {b : Bool} : isiA (.bl b) [.ty "int"] = .ok true := rfl
theorem is_bl_bool {b : Bool} : isiA (.bl b) [.ty "bool"] = .ok true := rfl
theorem is_bl_str {b : Bool} : isiA (.bl b) [.ty "str"] = .ok false := rfl
theorem is_str_tuple {s : Str} : isiA (.str s) [.ty "tuple"] = .ok false := rfl
theorem is_str_list {s : Str} : isiA (.str s) [.ty "list"] = .ok false := rfl
theorem is_str_int {s : Str} : isiA (.str s) [.ty "int"] = .ok false := rfl
theorem is_str_bool {s : Str} : isiA (.str s) [.ty "bool"] = .ok false := rfl
theorem is_str_str {s : Str} : isiA (.str s) [.ty "str"] = .ok true := rfl
theorem is_non_tuple  : isiA (.non) [.ty "tuple"] = .ok false := rfl
theorem is_non_list  : isiA (.non) [.ty "list"] = .ok false := rfl
theorem is_non_int  : isiA (.non) [.ty "int"] = .ok false := rfl
theorem is_non_bool  : isiA (.non) [.ty "bool"] = .ok false := rfl
theorem is_non_str  : isiA (.non) [.ty "str"] = .ok false := rfl
/-- a loop over a list that is told -/
def forS (r : R Env) (tg : Tg) (b : Env → O) (xs : List Val) : O := match r with
  | .ok env1 => (match b env1 with
    | .nx env' => forL tg b xs env'
    | .cnt env' => forL tg b xs env'
    | .brk env' => .nx env'
    | o => o)
  | _ => .bad
def forB (o : O) (tg : Tg) (b : Env → O) (xs : List Val) : O := match o with
    | .nx env' => forL tg b xs env'
    | .cnt env' => forL tg b xs env'
    | .brk env' => .nx env'
    | o => o
theorem forL_c {tg : Tg} {b : Env → O} {x : Val} {xs : List Val} {env : Env} : forL tg b (x :: xs) env = forS (bindT tg env x) tg b xs := rfl
theorem forS_ok {tg : Tg} {b : Env → O} {xs : List Val} {env : Env} : forS (.ok env) tg b xs = forB (b env) tg b xs := rfl
theorem forB_nx {tg : Tg} {b : Env → O} {xs : List Val} {env : Env} : forB (.nx env) tg b xs = forL tg b xs env := rfl
theorem forB_ret {tg : Tg} {b : Env → O} {xs : List Val} {v : Val} {f : Bool} : forB (.ret v f) tg b xs = .ret v f := rfl
theorem lcR_ok {cl : Nat → List Val → R (Val × Bool)} {xs : List Val} {tg : Tg} {cond : Option E} {el : E} {env : Env} : lcR cl (.ok xs) tg cond el env = if lenOk xs.length = true then (lcLoop tg (wipeE env (tgs tg)) (fun env' => (evC cl cond env').noexc) (fun env' => (vlE cl el env').noexc) xs).bind fun vs => .ok (.lst vs) else .bad := by
  show (if (!lenOk xs.length) = true then R.bad else _) = _
  cases lenOk xs.length <;> rfl
theorem lc_cons {tg : Tg} {c : Env → R Bool} {f : Env → R Val} {x : Val} {xs : List Val} {env : Env} : lcLoop tg env c f (x :: xs) = (bindT tg env x).bind fun env' => (c env').bind fun b => if b = true then (f env').bind fun v => (lcLoop tg env c f xs).bind fun vs => .ok (v :: vs) else lcLoop tg env c f xs := rfl
theorem vlE_d {cl : Nat → List Val → R (Val × Bool)} {e : E} {env : Env} : vlE cl e env = (evE cl e env).map (·.1) := rfl
theorem lenOk_lit {n : Nat} (h : n ≤ 1000000) : lenOk n = true := decide_eq_true h
theorem lenOk3 : lenOk 3 = true := rfl
theorem lenOk2 : lenOk 2 = true := rfl
theorem lenOk1 : lenOk 1 = true := rfl
theorem lenOk0 : lenOk 0 = true := rfl
theorem wipe1 {env : Env} {i : Nat} : wipeE env (tgs (.one i)) = env.set i none := rfl
theorem wipe2 {env : Env} {i j : Nat} : wipeE env (tgs (.tup [i, j])) = (env.set j none).set i none := rfl
theorem bind_one {i : Nat} {env : Env} {v : Val} : bindT (.one i) env v = .ok (put env i v false) := rfl
theorem bind_tup {is : List Nat} {env : Env} {vs : List Val} : bindT (.tup is) env (.tup vs) = if vs.length = is.length then putAll env is vs else .bad := rfl
theorem bind_lst {is : List Nat} {env : Env} {vs : List Val} : bindT (.tup is) env (.lst vs) = .bad := rfl
theorem rngV_succ (k : Int) (m : Nat) : rngV k (m + 1) = .int k :: rngV (k + 1) m := by
  unfold rngV
  rw [List.range_succ_eq_map, List.map_cons, List.map_map]
  congr 1
  · simp
  · apply List.map_congr_left
    intro i _
    show Val.int (k + ((i + 1 : Nat) : Int)) = .int (k + 1 + i)
    congr 1; omega
theorem ss_app {cl : Nat → List Val → R (Val × Bool)} : ∀ {a b : List S} {env : Env}, evSs cl (a ++ b) env = thnS cl (evSs cl a env) b
  | [], _, _ => rfl
  | s :: a, b, env => by
    rw [List.cons_append, ss_cons', ss_cons']
    cases evS cl s env with
    | nx env' => rw [thn_nx, thn_nx, ss_app]
    | _ => rfl
def ownS : Option (Option (Val × Bool)) → R (List Val)
  | some (some (.lst xs, true)) => .ok xs
  | _ => .bad
theorem ownL_s {env : Env} {i : Nat} : ownL env i = ownS env[i]? := by
  unfold ownL ownS
  rfl
theorem ownS_lst {xs : List Val} : ownS (some (some (.lst xs, true))) = .ok xs := rfl
end G

set_option linter.all false
set_option maxHeartbeats 1000000
set_option maxRecDepth 10000
/-! F1: numbers. -/
namespace G
open PySem
local macro_rules | `(tactic| walk_at "ev") => `(tactic| simp only [vl_nm, vl_bor, vl_cst, vl_bin, vl_neg, vl_cmp, vl_isn, vl_chn, vl_inn, vl_and, vl_or, vl_not, vl_ifx, vl_ix, vl_slc, vl_rev, vl_tup, vl_lst, vl_call, vl_blt, vl_isi, vl_lc, ev_nm, ev_cst, ev_bin, ev_neg, ev_cmp, ev_isn, ev_chn, ev_inn, ev_and, ev_or, ev_not, ev_ifx, ev_ix, ev_slc, ev_rev, ev_tup, ev_lst, ev_call, ev_blt, ev_isi, ev_lc, evEs_nil, evEs_cons, evAs_nil, evAs_cons, evO_none, evO_some, evC_none, evC_some, evIt_val, evIt_rng1, evIt_rng2, evIt_rvd, evT_vl, andR_t, andR_f, orR_f, orR_t, ifxR_t, ifxR_f, chnR_t, chnR_f, ss_nil', ss_cons', thn_nx, thn_ret, thn_exc, thn_bad, s_set', set_ok, set_exc, s_unp', unp_ok, s_ifs', if_t, if_f, s_for', for_ok, s_whl', s_ret', s_retn', s_pass', s_rse', s_exp', s_try', try_nx, try_ret, try_exc, s_par', s_par3', s_six', s_app', s_pop', s_popu', s_rev', rO_ok, rO_exc, ret_nm, ret_bor, ret_cst, ret_bin, ret_neg, ret_cmp, ret_isn, ret_chn, ret_inn, ret_and, ret_or, ret_not, ret_ifx, ret_ix, ret_slc, ret_rev, ret_tup, ret_lst, ret_call, ret_blt, ret_isi, ret_lc, fin_nx, fin_ret, fin_exc, b_add, b_sub, b_mul, b_fdiv, b_mod, p11, p12, p30, p42, p57, p59, b_addL, b_addT, b_mulL, c_lt, c_le, c_gt, c_ge, truth_bl, toI_int, toB_bl, items_lst, items_tup, len_lst, len_tup, len_scr, abs_int, int_int, int_bl, list_lst, list_tup, list_scr, tuple_lst, tuple_tup, max_int, min_int, ix_p0, ix_p1, c_eqI, c_neI, startE, frzE, frzI, frzAll, frz, kept, keptL, keptO, keptI, put, look, lookF, ownL_s, ownS_lst, evCall, lent, borI, bind_one, bind_tup, putAll, isLst_int, isLst_bl, isLst_str, isLst_tup, isLst_non, isLst_scr, isLst_exc, isLst_lst, isNon_int, isNon_bl, isNon_str, isNon_tup, isNon_non, isNon_scr, isNon_exc, isNon_lst, R.bind_ok, R.bind_exc, R.map_ok, R.map_exc, List.map_cons, List.map_nil, List.length_cons, List.length_nil, List.replicate, List.cons_append, List.nil_append, List.append_nil, List.getElem?_cons_zero, List.getElem?_cons_succ, List.set_cons_zero, List.set_cons_succ, Bool.false_and, Bool.true_and, Bool.and_true, Bool.and_false, Bool.or_false, Bool.false_or, Bool.or_true, Bool.true_or, Bool.not_true, Bool.not_false, decide_true, decide_false, if_true, if_false, ite_true, ite_false, reduceCtorEq, reduceIte, Nat.reduceAdd, Nat.reduceSub, Nat.reduceMul, Nat.reduceEqDiff, Int.reduceEq, Int.reduceLT, Int.reduceLE, Int.reduceNe, Int.reduceNeg, Int.reduceAdd, Int.reduceMul, Int.reduceSub, Nat.reduceLT, Nat.reduceLeDiff, Int.reduceGT, Int.reduceGE, is_tup_tuple, is_tup_list, is_tup_int, is_tup_bool, is_tup_str, is_lst_tuple, is_lst_list, is_lst_int, is_lst_bool, is_lst_str, is_int_tuple, is_int_list, is_int_int, is_int_bool, is_int_str, is_bl_tuple, is_bl_list, is_bl_int, is_bl_bool, is_bl_str, is_str_tuple, is_str_list, is_str_int, is_str_bool, is_str_str, is_non_tuple, is_non_list, is_non_int, is_non_bool, is_non_str, forL_c, forS_ok, forB_nx, forB_ret, forL_nil, lc_nil, Int.cast_ofNat_Int, lcR_ok, lc_cons, vlE_d, lenOk0, lenOk1, lenOk2, lenOk3, wipe1, wipe2, R.noexc_ok, decide_eq_true_eq, eq_self])
local macro_rules | `(tactic| walk_at "evh") => `(tactic| simp only [vl_nm, vl_bor, vl_cst, vl_bin, vl_neg, vl_cmp, vl_isn, vl_chn, vl_inn, vl_and, vl_or, vl_not, vl_ifx, vl_ix, vl_slc, vl_rev, vl_tup, vl_lst, vl_call, vl_blt, vl_isi, vl_lc, ev_nm, ev_cst, ev_bin, ev_neg, ev_cmp, ev_isn, ev_chn, ev_inn, ev_and, ev_or, ev_not, ev_ifx, ev_ix, ev_slc, ev_rev, ev_tup, ev_lst, ev_call, ev_blt, ev_isi, ev_lc, evEs_nil, evEs_cons, evAs_nil, evAs_cons, evO_none, evO_some, evC_none, evC_some, evIt_val, evIt_rng1, evIt_rng2, evIt_rvd, evT_vl, andR_t, andR_f, orR_f, orR_t, ifxR_t, ifxR_f, chnR_t, chnR_f, ss_nil', ss_cons', thn_nx, thn_ret, thn_exc, thn_bad, s_set', set_ok, set_exc, s_unp', unp_ok, s_ifs', if_t, if_f, s_for', for_ok, s_whl', s_ret', s_retn', s_pass', s_rse', s_exp', s_try', try_nx, try_ret, try_exc, s_par', s_par3', s_six', s_app', s_pop', s_popu', s_rev', rO_ok, rO_exc, ret_nm, ret_bor, ret_cst, ret_bin, ret_neg, ret_cmp, ret_isn, ret_chn, ret_inn, ret_and, ret_or, ret_not, ret_ifx, ret_ix, ret_slc, ret_rev, ret_tup, ret_lst, ret_call, ret_blt, ret_isi, ret_lc, fin_nx, fin_ret, fin_exc, b_add, b_sub, b_mul, b_fdiv, b_mod, p11, p12, p30, p42, p57, p59, b_addL, b_addT, b_mulL, c_lt, c_le, c_gt, c_ge, truth_bl, toI_int, toB_bl, items_lst, items_tup, len_lst, len_tup, len_scr, abs_int, int_int, int_bl, list_lst, list_tup, list_scr, tuple_lst, tuple_tup, max_int, min_int, ix_p0, ix_p1, c_eqI, c_neI, startE, frzE, frzI, frzAll, frz, kept, keptL, keptO, keptI, put, look, lookF, ownL_s, ownS_lst, evCall, lent, borI, bind_one, bind_tup, putAll, isLst_int, isLst_bl, isLst_str, isLst_tup, isLst_non, isLst_scr, isLst_exc, isLst_lst, isNon_int, isNon_bl, isNon_str, isNon_tup, isNon_non, isNon_scr, isNon_exc, isNon_lst, R.bind_ok, R.bind_exc, R.map_ok, R.map_exc, List.map_cons, List.map_nil, List.length_cons, List.length_nil, List.replicate, List.cons_append, List.nil_append, List.append_nil, List.getElem?_cons_zero, List.getElem?_cons_succ, List.set_cons_zero, List.set_cons_succ, Bool.false_and, Bool.true_and, Bool.and_true, Bool.and_false, Bool.or_false, Bool.false_or, Bool.or_true, Bool.true_or, Bool.not_true, Bool.not_false, decide_true, decide_false, if_true, if_false, ite_true, ite_false, reduceCtorEq, reduceIte, Nat.reduceAdd, Nat.reduceSub, Nat.reduceMul, Nat.reduceEqDiff, Int.reduceEq, Int.reduceLT, Int.reduceLE, Int.reduceNe, Int.reduceNeg, Int.reduceAdd, Int.reduceMul, Int.reduceSub, Nat.reduceLT, Nat.reduceLeDiff, Int.reduceGT, Int.reduceGE, is_tup_tuple, is_tup_list, is_tup_int, is_tup_bool, is_tup_str, is_lst_tuple, is_lst_list, is_lst_int, is_lst_bool, is_lst_str, is_int_tuple, is_int_list, is_int_int, is_int_bool, is_int_str, is_bl_tuple, is_bl_list, is_bl_int, is_bl_bool, is_bl_str, is_str_tuple, is_str_list, is_str_int, is_str_bool, is_str_str, is_non_tuple, is_non_list, is_non_int, is_non_bool, is_non_str, forL_c, forS_ok, forB_nx, forB_ret, forL_nil, lc_nil, Int.cast_ofNat_Int, lcR_ok, lc_cons, vlE_d, lenOk0, lenOk1, lenOk2, lenOk3, wipe1, wipe2, R.noexc_ok, decide_eq_true_eq, eq_self, *])
section
variable {FT : Nat → Option FD}
/-- a number -/
def nv (q : Rat) : Val := .tup [.int q.num, .int q.den]
def fd_divisor_of : FD := ⟨2, 2, [.whl (.cmp .gt (.bor 1) (.cst (.int 0))) [.par 0 1 (.nm 1) (.bin .mod (.bor 0) (.bor 1))], .ret (.nm 0)]⟩
def fd_number : FD := ⟨2, 3, [.ifs (.cmp .eq (.bor 1) (.cst (.int 0))) [.rse 1] [], .ifs (.cmp .lt (.bor 1) (.cst (.int 0))) [.set 0 (.neg (.bor 0)), .set 1 (.neg (.bor 1))] [], .set 2 (.call 0 [(.blt .abs [(.bor 0)]), (.nm 1)]), .ret (.tup [(.bin .fdiv (.bor 0) (.bor 2)), (.bin .fdiv (.bor 1) (.bor 2))])]⟩
def fd_less : FD := ⟨2, 2, [.ret (.cmp .lt (.bin .mul (.ix (.bor 0) (.cst (.int 0))) (.ix (.bor 1) (.cst (.int 1)))) (.bin .mul (.ix (.bor 1) (.cst (.int 0))) (.ix (.bor 0) (.cst (.int 1)))))]⟩
def fd_sign : FD := ⟨1, 1, [.ret (.bin .sub (.blt .int [(.cmp .gt (.ix (.bor 0) (.cst (.int 0))) (.cst (.int 0)))]) (.blt .int [(.cmp .lt (.ix (.bor 0) (.cst (.int 0))) (.cst (.int 0)))]))]⟩
def fd_plus : FD := ⟨2, 2, [.ret (.call 1 [(.bin .add (.bin .mul (.ix (.bor 0) (.cst (.int 0))) (.ix (.bor 1) (.cst (.int 1)))) (.bin .mul (.ix (.bor 1) (.cst (.int 0))) (.ix (.bor 0) (.cst (.int 1))))), (.bin .mul (.ix (.bor 0) (.cst (.int 1))) (.ix (.bor 1) (.cst (.int 1))))])]⟩
def fd_minus : FD := ⟨2, 2, [.ret (.call 1 [(.bin .sub (.bin .mul (.ix (.bor 0) (.cst (.int 0))) (.ix (.bor 1) (.cst (.int 1)))) (.bin .mul (.ix (.bor 1) (.cst (.int 0))) (.ix (.bor 0) (.cst (.int 1))))), (.bin .mul (.ix (.bor 0) (.cst (.int 1))) (.ix (.bor 1) (.cst (.int 1))))])]⟩
def fd_times : FD := ⟨2, 2, [.ret (.call 1 [(.bin .mul (.ix (.bor 0) (.cst (.int 0))) (.ix (.bor 1) (.cst (.int 0)))), (.bin .mul (.ix (.bor 0) (.cst (.int 1))) (.ix (.bor 1) (.cst (.int 1))))])]⟩
def fd_over : FD := ⟨2, 2, [.ret (.call 1 [(.bin .mul (.ix (.bor 0) (.cst (.int 0))) (.ix (.bor 1) (.cst (.int 1)))), (.bin .mul (.ix (.bor 0) (.cst (.int 1))) (.ix (.bor 1) (.cst (.int 0))))])]⟩
theorem dv_loop {cl : Nat → List Val → R (Val × Bool)} : ∀ (n : Nat) (a b : Int), 0 ≤ a → 0 ≤ b → b.toNat ≤ n → whlO cl (.cmp .gt (.bor 1) (.cst (.int 0))) [.par 0 1 (.nm 1) (.bin .mod (.bor 0) (.bor 1))] [some (.int a, false), some (.int b, false)] = .nx [some (.int (Int.gcd a b), false), some (.int 0, false)] := fun n a b ha hb hn => by
  by_cases h : b = 0
  · subst h
    have e : (Int.gcd a 0 : Int) = a := by simp; omega
    rw [e]
    exact whlO_f (by walk_at "ev")
  · have h0 : (0 : Int) < b := by omega
    rw [whlO_t (env' := [some (.int b, false), some (.int (a.fmod b), false)]) (by walk_at "evh") (by walk_at "evh")]
    have h1 := Int.fmod_lt_of_pos a h0
    have h2 := Int.fmod_nonneg_of_pos a h0
    cases n with
    | zero => omega
    | succ n => rw [dv_loop n b (a.fmod b) hb h2 (by omega), gcd_fmod]
theorem callF_divisor (h0 : FT 0 = some fd_divisor_of) {n : Nat} {a b : Int} (ha : 0 ≤ a) (hb : 0 ≤ b) : callF FT (n + 1) 0 [.int a, .int b] = .ok (.int (Int.gcd a b), false) := by
  rw [callF_s h0 rfl]
  have e := dv_loop (cl := callF FT n) b.toNat a b ha hb (Nat.le_refl _)
  unfold fd_divisor_of
  walk_at "evh"
theorem number_exc {cl : Nat → List Val → R (Val × Bool)} {t : Int} : fin (evSs cl fd_number.body (startE 3 [.int t, .int 0])) = .exc 1 := by
  unfold fd_number
  walk_at "ev"
theorem number_pos {cl : Nat → List Val → R (Val × Bool)} {t b : Int} (hb : 0 < b) (hc : cl 0 [.int (if t < 0 then -t else t), .int b] = .ok (.int (Int.gcd t b), false)) : fin (evSs cl fd_number.body (startE 3 [.int t, .int b])) = .ok (.tup [.int (t.fdiv (Int.gcd t b)), .int (b.fdiv (Int.gcd t b))], false) := by
  have h0 : ¬ b = 0 := by omega
  have h1 : ¬ b < 0 := by omega
  have h2 : ¬ ((Int.gcd t b : Nat) : Int) = 0 := by have := gcd_pos (a := t) h0; omega
  unfold fd_number
  walk_at "evh"
theorem number_neg {cl : Nat → List Val → R (Val × Bool)} {t b : Int} (hb : b < 0) (hc : cl 0 [.int (if -t < 0 then - -t else -t), .int (-b)] = .ok (.int (Int.gcd t b), false)) : fin (evSs cl fd_number.body (startE 3 [.int t, .int b])) = .ok (.tup [.int ((-t).fdiv (Int.gcd t b)), .int ((-b).fdiv (Int.gcd t b))], false) := by
  have h0 : ¬ b = 0 := by omega
  have h2 : ¬ ((Int.gcd t b : Nat) : Int) = 0 := by have := gcd_pos (a := t) h0; omega
  unfold fd_number
  walk_at "evh"
theorem callF_number (h0 : FT 0 = some fd_divisor_of) (h1 : FT 1 = some fd_number) {n : Nat} {t b : Int} (hb : b ≠ 0) : callF FT (n + 2) 1 [.int t, .int b] = .ok (nv (Rat.divInt t b), false) := by
  rw [callF_s h1 rfl]
  rcases Int.lt_or_gt_of_ne hb with h | h
  · have e : fin (evSs (callF FT (n + 1)) fd_number.body (startE 3 [.int t, .int b])) = _ := number_neg h (by rw [callF_divisor h0 (by split <;> omega) (by omega), gcd_abs_left, Int.neg_gcd, Int.gcd_neg])
    rw [show fd_number.nl = 3 from rfl, e]
    have h2 : (0 : Int) < -b := by omega
    unfold nv
    rw [← Rat.neg_divInt_neg, divInt_num h2, divInt_den h2, Int.neg_gcd, Int.gcd_neg]
  · have e : fin (evSs (callF FT (n + 1)) fd_number.body (startE 3 [.int t, .int b])) = _ := number_pos h (by rw [callF_divisor h0 (by split <;> omega) (by omega), gcd_abs_left])
    rw [show fd_number.nl = 3 from rfl, e]
    unfold nv
    rw [divInt_num h, divInt_den h]
theorem callF_number0 (h1 : FT 1 = some fd_number) {n : Nat} {t : Int} : callF FT (n + 1) 1 [.int t, .int 0] = .exc 1 := by
  rw [callF_s h1 rfl]; exact number_exc
section
variable (h0 : FT 0 = some fd_divisor_of) (h1 : FT 1 = some fd_number)
include h0 h1
theorem callF_plus (h4 : FT 4 = some fd_plus) {n i j : Nat} {p q : Rat} (hp : Bd i p) (hq : Bd j q) (hl : i + j < 134000000) : callF FT (n + 3) 4 [nv p, nv q] = .ok (nv (p + q), false) := by
  rw [callF_s h4 rfl, ← plus_eq]
  have e := callF_number h0 h1 (n := n) (t := p.num * q.den + q.num * p.den) (b := p.den * q.den) (Int.mul_ne_zero (den_ne p) (den_ne q))
  have m1 : mulOk p.num q.den = true := mul_ok hp.1 hq.2 hl
  have m2 : mulOk q.num p.den = true := mul_ok hq.1 hp.2 (by omega)
  have m3 : mulOk p.den q.den = true := mul_ok hp.2 hq.2 hl
  unfold fd_plus
  unfold nv at *
  walk_at "evh"
theorem callF_minus (h5 : FT 5 = some fd_minus) {n i j : Nat} {p q : Rat} (hp : Bd i p) (hq : Bd j q) (hl : i + j < 134000000) : callF FT (n + 3) 5 [nv p, nv q] = .ok (nv (p - q), false) := by
  rw [callF_s h5 rfl, ← minus_eq]
  have e := callF_number h0 h1 (n := n) (t := p.num * q.den - q.num * p.den) (b := p.den * q.den) (Int.mul_ne_zero (den_ne p) (den_ne q))
  have m1 : mulOk p.num q.den = true := mul_ok hp.1 hq.2 hl
  have m2 : mulOk q.num p.den = true := mul_ok hq.1 hp.2 (by omega)
  have m3 : mulOk p.den q.den = true := mul_ok hp.2 hq.2 hl
  unfold fd_minus
  unfold nv at *
  walk_at "evh"
theorem callF_times (h6 : FT 6 = some fd_times) {n i j : Nat} {p q : Rat} (hp : Bd i p) (hq : Bd j q) (hl : i + j < 134000000) : callF FT (n + 3) 6 [nv p, nv q] = .ok (nv (p * q), false) := by
  rw [callF_s h6 rfl, ← times_eq]
  have e := callF_number h0 h1 (n := n) (t := p.num * q.num) (b := p.den * q.den) (Int.mul_ne_zero (den_ne p) (den_ne q))
  have m1 : mulOk p.num q.num = true := mul_ok hp.1 hq.1 hl
  have m3 : mulOk p.den q.den = true := mul_ok hp.2 hq.2 hl
  unfold fd_times
  unfold nv at *
  walk_at "evh"
theorem callF_over (h7 : FT 7 = some fd_over) {n i j : Nat} {p q : Rat} (hq0 : q ≠ 0) (hp : Bd i p) (hq : Bd j q) (hl : i + j < 134000000) : callF FT (n + 3) 7 [nv p, nv q] = .ok (nv (p / q), false) := by
  rw [callF_s h7 rfl, ← over_eq]
  have e := callF_number h0 h1 (n := n) (t := p.num * q.den) (b := p.den * q.num) (Int.mul_ne_zero (den_ne p) (fun h => hq0 (num_zero.mp h)))
  have m1 : mulOk p.num q.den = true := mul_ok hp.1 hq.2 hl
  have m3 : mulOk p.den q.num = true := mul_ok hp.2 hq.1 hl
  unfold fd_over
  unfold nv at *
  walk_at "evh"
theorem callF_over0 (h7 : FT 7 = some fd_over) {n i : Nat} {p : Rat} (hp : Bd i p) (hl : i + 1 < 134000000) : callF FT (n + 3) 7 [nv p, nv 0] = .exc 1 := by
  rw [callF_s h7 rfl]
  have e := callF_number0 h1 (n := n + 1) (t := p.num * (0 : Rat).den)
  have m1 : mulOk p.num (0 : Rat).den = true := mul_ok (n := 1) hp.1 (by decide) hl
  have m3 : mulOk p.den (0 : Rat).num = true := mul_ok (n := 1) hp.2 (by decide) hl
  have z : (p.den : Int) * (0 : Rat).num = 0 := by rw [Rat.zero_num]; exact Int.mul_zero _
  unfold fd_over
  unfold nv at *
  walk_at "evh"
end
theorem callF_less (h2 : FT 2 = some fd_less) {n i j : Nat} {p q : Rat} (hp : Bd i p) (hq : Bd j q) (hl : i + j < 134000000) : callF FT (n + 1) 2 [nv p, nv q] = .ok (.bl (decide (p < q)), false) := by
  rw [callF_s h2 rfl]
  have m1 : mulOk p.num q.den = true := mul_ok hp.1 hq.2 hl
  have m2 : mulOk q.num p.den = true := mul_ok hq.1 hp.2 (by omega)
  unfold fd_less
  unfold nv at *
  walk_at "evh"
  simp only [Rat.lt_iff]
theorem callF_sign (h3 : FT 3 = some fd_sign) {n : Nat} {p : Rat} : callF FT (n + 1) 3 [nv p] = .ok (.int ((if 0 < p.num then 1 else 0) - (if p.num < 0 then 1 else 0)), false) := by
  rw [callF_s h3 rfl]
  unfold fd_sign nv
  walk_at "ev"
end
end G

set_option linter.all false
set_option maxHeartbeats 1000000
set_option maxRecDepth 10000
/-! F2: what the laws draw with. -/
namespace G
open PySem
local macro_rules | `(tactic| walk_at "ev") => `(tactic| simp only [vl_nm, vl_bor, vl_cst, vl_bin, vl_neg, vl_cmp, vl_isn, vl_chn, vl_inn, vl_and, vl_or, vl_not, vl_ifx, vl_ix, vl_slc, vl_rev, vl_tup, vl_lst, vl_call, vl_blt, vl_isi, vl_lc, ev_nm, ev_cst, ev_bin, ev_neg, ev_cmp, ev_isn, ev_chn, ev_inn, ev_and, ev_or, ev_not, ev_ifx, ev_ix, ev_slc, ev_rev, ev_tup, ev_lst, ev_call, ev_blt, ev_isi, ev_lc, evEs_nil, evEs_cons, evAs_nil, evAs_cons, evO_none, evO_some, evC_none, evC_some, evIt_val, evIt_rng1, evIt_rng2, evIt_rvd, evT_vl, andR_t, andR_f, orR_f, orR_t, ifxR_t, ifxR_f, chnR_t, chnR_f, ss_nil', ss_cons', thn_nx, thn_ret, thn_exc, thn_bad, s_set', set_ok, set_exc, s_unp', unp_ok, s_ifs', if_t, if_f, s_for', for_ok, s_whl', s_ret', s_retn', s_pass', s_rse', s_exp', s_try', try_nx, try_ret, try_exc, s_par', s_par3', s_six', s_app', s_pop', s_popu', s_rev', rO_ok, rO_exc, ret_nm, ret_bor, ret_cst, ret_bin, ret_neg, ret_cmp, ret_isn, ret_chn, ret_inn, ret_and, ret_or, ret_not, ret_ifx, ret_ix, ret_slc, ret_rev, ret_tup, ret_lst, ret_call, ret_blt, ret_isi, ret_lc, fin_nx, fin_ret, fin_exc, b_add, b_sub, b_mul, b_fdiv, b_mod, p11, p12, p30, p42, p57, p59, b_addL, b_addT, b_mulL, c_lt, c_le, c_gt, c_ge, truth_bl, toI_int, toB_bl, items_lst, items_tup, len_lst, len_tup, len_scr, abs_int, int_int, int_bl, list_lst, list_tup, list_scr, tuple_lst, tuple_tup, max_int, min_int, ix_p0, ix_p1, c_eqI, c_neI, startE, frzE, frzI, frzAll, frz, kept, keptL, keptO, keptI, put, look, lookF, ownL_s, ownS_lst, evCall, lent, borI, bind_one, bind_tup, putAll, isLst_int, isLst_bl, isLst_str, isLst_tup, isLst_non, isLst_scr, isLst_exc, isLst_lst, isNon_int, isNon_bl, isNon_str, isNon_tup, isNon_non, isNon_scr, isNon_exc, isNon_lst, R.bind_ok, R.bind_exc, R.map_ok, R.map_exc, List.map_cons, List.map_nil, List.length_cons, List.length_nil, List.replicate, List.cons_append, List.nil_append, List.append_nil, List.getElem?_cons_zero, List.getElem?_cons_succ, List.set_cons_zero, List.set_cons_succ, Bool.false_and, Bool.true_and, Bool.and_true, Bool.and_false, Bool.or_false, Bool.false_or, Bool.or_true, Bool.true_or, Bool.not_true, Bool.not_false, decide_true, decide_false, if_true, if_false, ite_true, ite_false, reduceCtorEq, reduceIte, Nat.reduceAdd, Nat.reduceSub, Nat.reduceMul, Nat.reduceEqDiff, Int.reduceEq, Int.reduceLT, Int.reduceLE, Int.reduceNe, Int.reduceNeg, Int.reduceAdd, Int.reduceMul, Int.reduceSub, Nat.reduceLT, Nat.reduceLeDiff, Int.reduceGT, Int.reduceGE, is_tup_tuple, is_tup_list, is_tup_int, is_tup_bool, is_tup_str, is_lst_tuple, is_lst_list, is_lst_int, is_lst_bool, is_lst_str, is_int_tuple, is_int_list, is_int_int, is_int_bool, is_int_str, is_bl_tuple, is_bl_list, is_bl_int, is_bl_bool, is_bl_str, is_str_tuple, is_str_list, is_str_int, is_str_bool, is_str_str, is_non_tuple, is_non_list, is_non_int, is_non_bool, is_non_str, forL_c, forS_ok, forB_nx, forB_ret, forL_nil, lc_nil, Int.cast_ofNat_Int, lcR_ok, lc_cons, vlE_d, lenOk0, lenOk1, lenOk2, lenOk3, wipe1, wipe2, R.noexc_ok, decide_eq_true_eq, eq_self])
local macro_rules | `(tactic| walk_at "evh") => `(tactic| simp only [vl_nm, vl_bor, vl_cst, vl_bin, vl_neg, vl_cmp, vl_isn, vl_chn, vl_inn, vl_and, vl_or, vl_not, vl_ifx, vl_ix, vl_slc, vl_rev, vl_tup, vl_lst, vl_call, vl_blt, vl_isi, vl_lc, ev_nm, ev_cst, ev_bin, ev_neg, ev_cmp, ev_isn, ev_chn, ev_inn, ev_and, ev_or, ev_not, ev_ifx, ev_ix, ev_slc, ev_rev, ev_tup, ev_lst, ev_call, ev_blt, ev_isi, ev_lc, evEs_nil, evEs_cons, evAs_nil, evAs_cons, evO_none, evO_some, evC_none, evC_some, evIt_val, evIt_rng1, evIt_rng2, evIt_rvd, evT_vl, andR_t, andR_f, orR_f, orR_t, ifxR_t, ifxR_f, chnR_t, chnR_f, ss_nil', ss_cons', thn_nx, thn_ret, thn_exc, thn_bad, s_set', set_ok, set_exc, s_unp', unp_ok, s_ifs', if_t, if_f, s_for', for_ok, s_whl', s_ret', s_retn', s_pass', s_rse', s_exp', s_try', try_nx, try_ret, try_exc, s_par', s_par3', s_six', s_app', s_pop', s_popu', s_rev', rO_ok, rO_exc, ret_nm, ret_bor, ret_cst, ret_bin, ret_neg, ret_cmp, ret_isn, ret_chn, ret_inn, ret_and, ret_or, ret_not, ret_ifx, ret_ix, ret_slc, ret_rev, ret_tup, ret_lst, ret_call, ret_blt, ret_isi, ret_lc, fin_nx, fin_ret, fin_exc, b_add, b_sub, b_mul, b_fdiv, b_mod, p11, p12, p30, p42, p57, p59, b_addL, b_addT, b_mulL, c_lt, c_le, c_gt, c_ge, truth_bl, toI_int, toB_bl, items_lst, items_tup, len_lst, len_tup, len_scr, abs_int, int_int, int_bl, list_lst, list_tup, list_scr, tuple_lst, tuple_tup, max_int, min_int, ix_p0, ix_p1, c_eqI, c_neI, startE, frzE, frzI, frzAll, frz, kept, keptL, keptO, keptI, put, look, lookF, ownL_s, ownS_lst, evCall, lent, borI, bind_one, bind_tup, putAll, isLst_int, isLst_bl, isLst_str, isLst_tup, isLst_non, isLst_scr, isLst_exc, isLst_lst, isNon_int, isNon_bl, isNon_str, isNon_tup, isNon_non, isNon_scr, isNon_exc, isNon_lst, R.bind_ok, R.bind_exc, R.map_ok, R.map_exc, List.map_cons, List.map_nil, List.length_cons, List.length_nil, List.replicate, List.cons_append, List.nil_append, List.append_nil, List.getElem?_cons_zero, List.getElem?_cons_succ, List.set_cons_zero, List.set_cons_succ, Bool.false_and, Bool.true_and, Bool.and_true, Bool.and_false, Bool.or_false, Bool.false_or, Bool.or_true, Bool.true_or, Bool.not_true, Bool.not_false, decide_true, decide_false, if_true, if_false, ite_true, ite_false, reduceCtorEq, reduceIte, Nat.reduceAdd, Nat.reduceSub, Nat.reduceMul, Nat.reduceEqDiff, Int.reduceEq, Int.reduceLT, Int.reduceLE, Int.reduceNe, Int.reduceNeg, Int.reduceAdd, Int.reduceMul, Int.reduceSub, Nat.reduceLT, Nat.reduceLeDiff, Int.reduceGT, Int.reduceGE, is_tup_tuple, is_tup_list, is_tup_int, is_tup_bool, is_tup_str, is_lst_tuple, is_lst_list, is_lst_int, is_lst_bool, is_lst_str, is_int_tuple, is_int_list, is_int_int, is_int_bool, is_int_str, is_bl_tuple, is_bl_list, is_bl_int, is_bl_bool, is_bl_str, is_str_tuple, is_str_list, is_str_int, is_str_bool, is_str_str, is_non_tuple, is_non_list, is_non_int, is_non_bool, is_non_str, forL_c, forS_ok, forB_nx, forB_ret, forL_nil, lc_nil, Int.cast_ofNat_Int, lcR_ok, lc_cons, vlE_d, lenOk0, lenOk1, lenOk2, lenOk3, wipe1, wipe2, R.noexc_ok, decide_eq_true_eq, eq_self, *])
section
variable {FT : Nat → Option FD}
theorem atI_nn {α : Type} {xs : List α} {i : Int} (h0 : 0 ≤ i) (h1 : i < xs.length) : L2.atI xs i = xs[i.toNat]? := by
  unfold L2.atI L2.ixN
  rw [if_pos h0, if_pos h1]; rfl
theorem atI_ex {α : Type} {xs : List α} {i : Int} (h0 : 0 ≤ i) (h1 : i < xs.length) : ∃ x, L2.atI xs i = some x ∧ x ∈ xs := by
  rw [atI_nn h0 h1]
  have : i.toNat < xs.length := by omega
  exact ⟨xs[i.toNat], List.getElem?_eq_getElem this, List.getElem_mem this⟩
theorem fmod_bd (a : Int) {b : Int} (hb : 0 < b) : 0 ≤ a.fmod b ∧ a.fmod b < b := ⟨Int.fmod_nonneg_of_pos a hb, Int.fmod_lt_of_pos a hb⟩
def fd_law_mixed : FD := ⟨2, 3, [.set 2 (.cst (.int 7)), .ifs (.cmp .gt (.blt .len [(.bor 0)]) (.cst (.int 0))) [.set 2 (.ix (.bor 0) (.bin .mod (.bor 1) (.blt .len [(.bor 0)])))] [], .set 2 (.bin .mod (.bin .mul (.bin .add (.bin .add (.bin .mod (.bor 2) (.cst (.int 2147483629))) (.bin .mul (.cst (.int 6151)) (.bor 1))) (.cst (.int 1))) (.cst (.int 48271))) (.cst (.int 2147483647))), .ret (.bin .mod (.bin .mul (.bor 2) (.bin .add (.bin .add (.bin .mod (.bor 2) (.cst (.int 65519))) (.bor 1)) (.cst (.int 2)))) (.cst (.int 2147483629)))]⟩
/-- the cell that a draw starts from -/
def cellOf (ns : List Int) (k : Int) : Int := if 0 < ns.length then (L2.atI ns (k.fmod ns.length)).getD 0 else 7
/-- a draw -/
def mx (ns : List Int) (k : Int) : Int :=
  ((((cellOf ns k).fmod 2147483629 + 6151 * k + 1) * 48271).fmod 2147483647 * (((((cellOf ns k).fmod 2147483629 + 6151 * k + 1) * 48271).fmod 2147483647).fmod 65519 + k + 2)).fmod 2147483629
theorem mx_bd (ns : List Int) (k : Int) : 0 ≤ mx ns k ∧ mx ns k < 2147483629 := fmod_bd _ (by decide)
theorem natAbs_lt_pow {a : Int} {n : Nat} (h : a < 2 ^ n) (h2 : -(2 ^ n) < a) : a.natAbs < 2 ^ n := by
  have : ((2 : Int) ^ n) = ((2 ^ n : Nat) : Int) := by simp
  omega
theorem mul_small {a b : Int} {m n : Nat} (ha : a.natAbs < 2 ^ m) (hb : b.natAbs < 2 ^ n) (l : m + n < 134000000) : mulOk a b = true := mul_ok ha hb l
theorem callF_mixed (h : FT 122 = some fd_law_mixed) {n : Nat} {ns : List Int} {k : Int} (k0 : 0 ≤ k) (k1 : k < 1000000) : callF FT (n + 1) 122 [.scr ns, .int k] = .ok (.int (mx ns k), false) := by
  rw [callF_s h rfl]
  have e1 : fin (evSs (callF FT n) [.set 2 (.bin .mod (.bin .mul (.bin .add (.bin .add (.bin .mod (.bor 2) (.cst (.int 2147483629))) (.bin .mul (.cst (.int 6151)) (.bor 1))) (.cst (.int 1))) (.cst (.int 48271))) (.cst (.int 2147483647))), .ret (.bin .mod (.bin .mul (.bor 2) (.bin .add (.bin .add (.bin .mod (.bor 2) (.cst (.int 65519))) (.bor 1)) (.cst (.int 2)))) (.cst (.int 2147483629)))]
      [some (.scr ns, false), some (.int k, false), some (.int (cellOf ns k), false)]) = .ok (.int (mx ns k), false) := by
    have b1 := fmod_bd (cellOf ns k) (b := 2147483629) (by decide)
    have m1 : mulOk 6151 k = true := mul_small (m := 13) (n := 20) (by decide) (natAbs_lt_pow (by omega) (by omega)) (by decide)
    have m2 : mulOk ((cellOf ns k).fmod 2147483629 + 6151 * k + 1) 48271 = true := mul_small (m := 34) (n := 16) (natAbs_lt_pow (by omega) (by omega)) (by decide) (by decide)
    have b2 := fmod_bd (((cellOf ns k).fmod 2147483629 + 6151 * k + 1) * 48271) (b := 2147483647) (by decide)
    have b3 := fmod_bd ((((cellOf ns k).fmod 2147483629 + 6151 * k + 1) * 48271).fmod 2147483647) (b := 65519) (by decide)
    have m3 : mulOk ((((cellOf ns k).fmod 2147483629 + 6151 * k + 1) * 48271).fmod 2147483647) (((((cellOf ns k).fmod 2147483629 + 6151 * k + 1) * 48271).fmod 2147483647).fmod 65519 + k + 2) = true :=
      mul_small (m := 31) (n := 21) (natAbs_lt_pow (by omega) (by omega)) (natAbs_lt_pow (by omega) (by omega)) (by decide)
    walk_at "evh"
    rfl
  generalize hr : ([.set 2 (.bin .mod (.bin .mul (.bin .add (.bin .add (.bin .mod (.bor 2) (.cst (.int 2147483629))) (.bin .mul (.cst (.int 6151)) (.bor 1))) (.cst (.int 1))) (.cst (.int 48271))) (.cst (.int 2147483647))), .ret (.bin .mod (.bin .mul (.bor 2) (.bin .add (.bin .add (.bin .mod (.bor 2) (.cst (.int 65519))) (.bor 1)) (.cst (.int 2)))) (.cst (.int 2147483629)))] : List S) = rest at e1
  have eb : fd_law_mixed.body = .set 2 (.cst (.int 7)) :: .ifs (.cmp .gt (.blt .len [(.bor 0)]) (.cst (.int 0))) [.set 2 (.ix (.bor 0) (.bin .mod (.bor 1) (.blt .len [(.bor 0)])))] [] :: rest := by rw [← hr]; rfl
  rw [eb, show fd_law_mixed.nl = 3 from rfl]
  by_cases h0 : 0 < ns.length
  · have hl : (0 : Int) < ns.length := by omega
    have hl2 : ¬ (ns.length : Int) = 0 := by omega
    have b := fmod_bd k hl
    obtain ⟨z, hz, _⟩ := atI_ex (xs := ns) b.1 b.2
    have ec : cellOf ns k = z := by unfold cellOf; rw [if_pos h0, hz]; rfl
    rw [ec] at e1
    have ez : ofO ((L2.atI ns (k.fmod ns.length)).map Val.int) = .ok (.int z) := by rw [hz]; rfl
    have ix : evIx (.scr ns) (.int (k.fmod ns.length)) = .ok (.int z) := ez
    clear hr eb
    walk_at "evh"
  · have hl : ¬ (0 : Int) < ns.length := by omega
    have ec : cellOf ns k = 7 := by unfold cellOf; rw [if_neg h0]
    rw [ec] at e1
    clear hr eb
    walk_at "evh"
theorem mx_sz (ns : List Int) (k : Int) : (mx ns k).natAbs < 2 ^ 31 := by have := mx_bd ns k; exact natAbs_lt_pow (by omega) (by omega)
theorem mul_sz {a b : Int} {m n : Nat} (ha : a.natAbs < 2 ^ m) (hb : b.natAbs < 2 ^ n) : (a * b).natAbs < 2 ^ (m + n) := by rw [Int.natAbs_mul]; exact lt_mul ha hb
/-- a list's cell, drawn -/
theorem ix_pick {xs : List Val} {i : Int} {p : Val → Prop} (h0 : 0 ≤ i) (h1 : i < xs.length) (h : ∀ x ∈ xs, p x) : ∃ x, evIx (.lst xs) (.int i) = .ok x ∧ p x := by
  obtain ⟨x, e, m⟩ := atI_ex h0 h1
  exact ⟨x, by rw [ix_lst, e]; rfl, h x m⟩
theorem ix_pickT {xs : List Val} {i : Int} {p : Val → Prop} (h0 : 0 ≤ i) (h1 : i < xs.length) (h : ∀ x ∈ xs, p x) : ∃ x, evIx (.tup xs) (.int i) = .ok x ∧ p x := by
  obtain ⟨x, e, m⟩ := atI_ex h0 h1
  exact ⟨x, by rw [ix_tup, e]; rfl, h x m⟩
end
end G

set_option linter.all false
set_option maxHeartbeats 1000000
set_option maxRecDepth 10000
/-! F3: values compared. -/
namespace G
open PySem
/-- data of at most this depth -/
structure Dn (n : Nat) (v : Val) : Prop where
  d : isD v = true
  l : (dat v).canLay0 = true
  h : (dat v).depth ≤ n
theorem Dn.mono {m n : Nat} {v : Val} (h : Dn m v) (l : m ≤ n) : Dn n v := ⟨h.d, h.l, Nat.le_trans h.h l⟩
theorem Dn.ok {n : Nat} {v : Val} (h : Dn n v) (l : n ≤ 64) : okD v = true := by
  unfold okD SeqAt.shaped
  rw [h.d, h.l, decide_eq_true (Nat.le_trans h.h l)]; rfl
theorem Dn.int {n : Nat} (i : Int) : Dn n (.int i) := ⟨rfl, rfl, Nat.zero_le _⟩
theorem Dn.bl {n : Nat} (b : Bool) : Dn n (.bl b) := ⟨rfl, rfl, Nat.zero_le _⟩
theorem Dn.non {n : Nat} : Dn n .non := ⟨rfl, rfl, Nat.zero_le _⟩
theorem Dn.all {n : Nat} : ∀ {xs : List Val}, (∀ x ∈ xs, Dn n x) → isDs xs = true ∧ PyData.canLayAll0 (dats xs) = true ∧ PyData.depthAll (dats xs) ≤ n
  | [], _ => ⟨rfl, rfl, Nat.zero_le _⟩
  | x :: xs, h => by
    obtain ⟨h1, h2, h3⟩ := Dn.all (xs := xs) fun y hy => h y (List.mem_cons_of_mem _ hy)
    have hx := h x List.mem_cons_self
    refine ⟨?_, ?_, ?_⟩
    · show (isD x && isDs xs) = true; rw [hx.d, h1]; rfl
    · show (PyData.canLay0 (dat x) && PyData.canLayAll0 (dats xs)) = true; rw [hx.l, h2]; rfl
    · show max (PyData.depth (dat x)) (PyData.depthAll (dats xs)) ≤ n; exact Nat.max_le.mpr ⟨hx.h, h3⟩
theorem Dn.tup {n : Nat} {xs : List Val} (h : ∀ x ∈ xs, Dn n x) : Dn (n + 1) (.tup xs) := by
  obtain ⟨h1, h2, h3⟩ := Dn.all h
  exact ⟨h1, h2, Nat.succ_le_succ h3⟩
theorem Dn.lst {n : Nat} {xs : List Val} (h : ∀ x ∈ xs, Dn n x) : Dn (n + 1) (.lst xs) := by
  obtain ⟨h1, h2, h3⟩ := Dn.all h
  exact ⟨h1, h2, Nat.succ_le_succ h3⟩
theorem Dn.nv (q : Rat) : Dn 1 (nv q) := Dn.tup (by
  intro x hx
  simp only [List.mem_cons, List.not_mem_nil, or_false] at hx
  rcases hx with rfl | rfl
  · exact .int _
  · exact .int _)
/-- == -/
def vEq (a b : Val) : Bool := PyData.eqv (dat a) (dat b)
def vEqs (a b : List Val) : Bool := PyData.eqvAll (dats a) (dats b)
theorem c_eqV {m n : Nat} {a b : Val} (ha : Dn m a) (hb : Dn n b) (lm : m ≤ 64) (ln : n ≤ 64) : evCmp .eq a b = .ok (.bl (vEq a b)) := by
  show (if (okD a && okD b) = true then R.ok (Val.bl (PyData.eqv (dat a) (dat b))) else .bad) = _
  rw [ha.ok lm, hb.ok ln]; rfl
theorem c_neV {m n : Nat} {a b : Val} (ha : Dn m a) (hb : Dn n b) (lm : m ≤ 64) (ln : n ≤ 64) : evCmp .ne a b = .ok (.bl (!vEq a b)) := by
  show (if (okD a && okD b) = true then R.ok (Val.bl (!PyData.eqv (dat a) (dat b))) else .bad) = _
  rw [ha.ok lm, hb.ok ln]; rfl
theorem vEq_int {i j : Int} : vEq (.int i) (.int j) = decide (i = j) := eqv_int
theorem vEq_bl {a b : Bool} : vEq (.bl a) (.bl b) = decide (a = b) := by cases a <;> cases b <;> rfl
theorem vEq_tup {xs ys : List Val} : vEq (.tup xs) (.tup ys) = vEqs xs ys := rfl
theorem vEq_lst {xs ys : List Val} : vEq (.lst xs) (.lst ys) = vEqs xs ys := rfl
theorem vEqs_nil : vEqs [] [] = true := rfl
theorem vEqs_cons {x y : Val} {xs ys : List Val} : vEqs (x :: xs) (y :: ys) = (vEq x y && vEqs xs ys) := rfl
theorem vEqs_nc {y : Val} {ys : List Val} : vEqs [] (y :: ys) = false := rfl
theorem vEqs_cn {x : Val} {xs : List Val} : vEqs (x :: xs) [] = false := rfl
theorem vEq_ts {xs : List Val} {s : Str} : vEq (.tup xs) (.str s) = false := rfl
theorem vEq_tn {xs : List Val} : vEq (.tup xs) .non = false := rfl
theorem vEq_str {s t : Str} : vEq (.str s) (.str t) = (s == t) := rfl
theorem vEq_nv {p q : Rat} : vEq (nv p) (nv q) = decide (p = q) := by
  unfold nv
  rw [vEq_tup, vEqs_cons, vEqs_cons, vEqs_nil, vEq_int, vEq_int, Bool.and_true]
  by_cases h : p = q
  · subst h; simp
  · rw [decide_eq_false h]
    by_cases h1 : p.num = q.num
    · have : ¬ (p.den : Int) = q.den := fun h2 => h (Rat.ext h1 (by omega))
      rw [decide_eq_false this, Bool.and_false]
    · rw [decide_eq_false h1, Bool.false_and]
/-- a curve; a list of numbers -/
def cv (l : List Rat) : Val := .tup (l.map nv)
def lv (l : List Rat) : Val := .lst (l.map nv)
theorem vEqs_nv : ∀ {l m : List Rat}, vEqs (l.map nv) (m.map nv) = decide (l = m)
  | [], [] => rfl
  | [], _ :: _ => by rw [decide_eq_false (by simp)]; rfl
  | _ :: _, [] => by rw [decide_eq_false (by simp)]; rfl
  | p :: l, q :: m => by
    rw [List.map_cons, List.map_cons, vEqs_cons, vEq_nv, vEqs_nv]
    by_cases h1 : p = q
    · subst h1; simp
    · simp [h1]
theorem vEq_cv {l m : List Rat} : vEq (cv l) (cv m) = decide (l = m) := vEqs_nv
theorem vEq_lv {l m : List Rat} : vEq (lv l) (lv m) = decide (l = m) := vEqs_nv
theorem Dn.nvs {l : List Rat} : ∀ x ∈ l.map G.nv, Dn 1 x := by
  intro x hx
  obtain ⟨q, _, rfl⟩ := List.mem_map.mp hx
  exact .nv q
theorem Dn.cv (l : List Rat) : Dn 2 (cv l) := .tup Dn.nvs
theorem Dn.lv (l : List Rat) : Dn 2 (lv l) := .lst Dn.nvs
theorem Dn.bls {n : Nat} {l : List Bool} : ∀ x ∈ l.map Val.bl, Dn n x := by
  intro x hx
  obtain ⟨q, _, rfl⟩ := List.mem_map.mp hx
  exact .bl q
theorem c_eqN {p q : Rat} : evCmp .eq (nv p) (nv q) = .ok (.bl (decide (p = q))) := by rw [c_eqV (.nv p) (.nv q) (by decide) (by decide), vEq_nv]
theorem c_neN {p q : Rat} : evCmp .ne (nv p) (nv q) = .ok (.bl (!decide (p = q))) := by rw [c_neV (.nv p) (.nv q) (by decide) (by decide), vEq_nv]
theorem c_eqC {l m : List Rat} : evCmp .eq (cv l) (cv m) = .ok (.bl (decide (l = m))) := by rw [c_eqV (.cv l) (.cv m) (by decide) (by decide), vEq_cv]
theorem c_neC {l m : List Rat} : evCmp .ne (cv l) (cv m) = .ok (.bl (!decide (l = m))) := by rw [c_neV (.cv l) (.cv m) (by decide) (by decide), vEq_cv]
theorem c_eqL {l m : List Rat} : evCmp .eq (lv l) (lv m) = .ok (.bl (decide (l = m))) := by rw [c_eqV (.lv l) (.lv m) (by decide) (by decide), vEq_lv]
theorem c_neL {l m : List Rat} : evCmp .ne (lv l) (lv m) = .ok (.bl (!decide (l = m))) := by rw [c_neV (.lv l) (.lv m) (by decide) (by decide), vEq_lv]
/-- fractions by tops and bottoms -/
theorem cross_eq {t b : Int} {q : Rat} (hb : b ≠ 0) (h : q = Rat.divInt t b) : q.num * b = q.den * t := by
  have := (Rat.divInt_eq_divInt_iff (den_ne q) hb).mp ((Rat.num_divInt_den q).trans h)
  rw [this, Int.mul_comm]
theorem ix_nv0 {q : Rat} : evIx (nv q) (.int 0) = .ok (.int q.num) := rfl
theorem ix_nv1 {q : Rat} : evIx (nv q) (.int 1) = .ok (.int q.den) := rfl
theorem is_nv_tuple {q : Rat} : isiA (nv q) [.ty "tuple"] = .ok true := rfl
theorem is_cv_tuple {l : List Rat} : isiA (cv l) [.ty "tuple"] = .ok true := rfl
theorem is_lv_list {l : List Rat} : isiA (lv l) [.ty "list"] = .ok true := rfl
theorem is_lv_tuple {l : List Rat} : isiA (lv l) [.ty "tuple"] = .ok false := rfl
theorem is_cv_list {l : List Rat} : isiA (cv l) [.ty "list"] = .ok false := rfl
theorem isLst_nv {q : Rat} : isLst (nv q) = false := rfl
theorem isLst_cv {l : List Rat} : isLst (cv l) = false := rfl
theorem isLst_lv {l : List Rat} : isLst (lv l) = true := rfl
theorem isNon_nv {q : Rat} : isNon (nv q) = false := rfl
theorem isNon_cv {l : List Rat} : isNon (cv l) = false := rfl
theorem isNon_lv {l : List Rat} : isNon (lv l) = false := rfl
theorem bind_nv {q : Rat} {i j : Nat} {env : Env} : bindT (.tup [i, j]) env (nv q) = .ok (put (put env i (.int q.num) false) j (.int q.den) false) := rfl
theorem items_cv {l : List Rat} : itemsOf (cv l) = .ok (l.map nv) := rfl
theorem items_lv {l : List Rat} : itemsOf (lv l) = .ok (l.map nv) := rfl
theorem len_cv {l : List Rat} : evBf .len [cv l] = .ok (.int l.length) := by show R.ok (Val.int (l.map nv).length) = _; rw [List.length_map]
theorem len_lv {l : List Rat} : evBf .len [lv l] = .ok (.int l.length) := by show R.ok (Val.int (l.map nv).length) = _; rw [List.length_map]
theorem list_cv {l : List Rat} : evBf .list [cv l] = .ok (lv l) := rfl
theorem list_lv {l : List Rat} : evBf .list [lv l] = .ok (lv l) := rfl
theorem tuple_cv {l : List Rat} : evBf .tuple [cv l] = .ok (cv l) := rfl
theorem tuple_lv {l : List Rat} : evBf .tuple [lv l] = .ok (cv l) := rfl
theorem atI_mapF {α β : Type} (f : α → β) (xs : List α) (i : Int) : L2.atI (xs.map f) i = (L2.atI xs i).map f := by
  unfold L2.atI
  rw [List.length_map]
  cases L2.ixN xs.length i <;> simp
theorem ix_cv {l : List Rat} {i : Int} : evIx (cv l) (.int i) = ofO ((L2.atI l i).map nv) := by
  show ofO (L2.atI (l.map nv) i) = _
  rw [atI_mapF]
theorem ix_lv {l : List Rat} {i : Int} : evIx (lv l) (.int i) = ofO ((L2.atI l i).map nv) := by
  show ofO (L2.atI (l.map nv) i) = _
  rw [atI_mapF]
theorem ix_cvN {l : List Rat} {i : Int} {q : Rat} {k : Nat} (hi : i = k) (h : l[k]? = some q) : evIx (cv l) (.int i) = .ok (nv q) := by
  subst hi
  have := (List.getElem?_eq_some_iff.mp h).1
  rw [ix_cv, atI_nn (by omega) (by omega), Int.toNat_natCast, h]; rfl
theorem ix_lvN {l : List Rat} {i : Int} {q : Rat} {k : Nat} (hi : i = k) (h : l[k]? = some q) : evIx (lv l) (.int i) = .ok (nv q) := by
  subst hi
  have := (List.getElem?_eq_some_iff.mp h).1
  rw [ix_lv, atI_nn (by omega) (by omega), Int.toNat_natCast, h]; rfl
theorem c_neTS {l : List Rat} {s : Str} (h : (dat (.str s)).canLay0 = true) : evCmp .ne (cv l) (.str s) = .ok (.bl true) := c_neV (m := 2) (n := 0) (.cv l) ⟨rfl, h, Nat.zero_le _⟩ (by decide) (by decide)
theorem nv01 : Val.tup [.int 0, .int 1] = nv 0 := rfl
theorem nv11 : Val.tup [.int 1, .int 1] = nv 1 := rfl
theorem cv_nil : Val.tup [] = cv [] := rfl
theorem lv_nil : Val.lst [] = lv [] := rfl
theorem cv_one {q : Rat} : Val.tup [nv q] = cv [q] := rfl
/-! ### lists of numbers -/
theorem add_lv {a b : List Rat} (h : a.length + b.length ≤ 1000000) : evBin .add (lv a) (lv b) = .ok (lv (a ++ b)) := by
  show (if lenOk ((a.map nv).length + (b.map nv).length) = true then R.ok (Val.lst (a.map nv ++ b.map nv)) else .bad) = _
  rw [List.length_map, List.length_map, if_pos (lenOk_lit h), ← List.map_append]; rfl
theorem add_cv {a b : List Rat} (h : a.length + b.length ≤ 1000000) : evBin .add (cv a) (cv b) = .ok (cv (a ++ b)) := by
  show (if lenOk ((a.map nv).length + (b.map nv).length) = true then R.ok (Val.tup (a.map nv ++ b.map nv)) else .bad) = _
  rw [List.length_map, List.length_map, if_pos (lenOk_lit h), ← List.map_append]; rfl
theorem rep_lv {q : Rat} {k : Int} (h : k ≤ 1000000) (h2 : -1000000 ≤ k) : evBin .mul (lv [q]) (.int k) = .ok (lv (List.replicate k.toNat q)) := by
  show (if (lenOk ([nv q].length * k.toNat) && decide (-1000000 ≤ k ∧ k ≤ 1000000)) = true then R.ok (Val.lst (List.replicate k.toNat [nv q]).flatten) else .bad) = _
  have h3 : lenOk ([nv q].length * k.toNat) = true := lenOk_lit (by show 1 * k.toNat ≤ _; omega)
  rw [h3, decide_eq_true (show -1000000 ≤ k ∧ k ≤ 1000000 from ⟨h2, h⟩)]
  show R.ok (Val.lst (List.replicate k.toNat [nv q]).flatten) = R.ok (Val.lst ((List.replicate k.toNat q).map nv))
  rw [List.map_replicate]
  congr 2
  induction k.toNat with
  | zero => rfl
  | succ n ih => rw [List.replicate_succ, List.flatten_cons, ih]; rfl
theorem rev_lv {l : List Rat} : evRev (lv l) = .ok (lv l.reverse) := by
  show R.ok (Val.lst (l.map nv).reverse) = _
  rw [← List.map_reverse]; rfl
theorem rev_cv {l : List Rat} : evRev (cv l) = .ok (cv l.reverse) := by
  show R.ok (Val.tup (l.map nv).reverse) = _
  rw [← List.map_reverse]; rfl
theorem lv_one {q : Rat} : Val.lst [nv q] = lv [q] := rfl
theorem lv_map {l : List Rat} : Val.lst (l.map nv) = lv l := rfl
theorem cv_map {l : List Rat} : Val.tup (l.map nv) = cv l := rfl
theorem lenOk_map {l : List Rat} : lenOk (l.map nv).length = lenOk l.length := by rw [List.length_map]
/-- a comprehension over a range, a number each time -/
theorem lc_rng {tg : Tg} {env : Env} {c : Env → R Bool} {f : Env → R Val} (g : Nat → Rat) : ∀ (m : Nat) (lo : Int), (∀ k : Nat, k < m → ∃ env1, bindT tg env (.int (lo + k)) = .ok env1 ∧ c env1 = .ok true ∧ f env1 = .ok (nv (g k))) → lcLoop tg env c f (rngV lo m) = .ok (((List.range m).map g).map nv) := fun m lo h => by
  have : ∀ (m s : Nat), (∀ k : Nat, k < m → ∃ env1, bindT tg env (.int (lo + (s + k : Nat))) = .ok env1 ∧ c env1 = .ok true ∧ f env1 = .ok (nv (g (s + k)))) → lcLoop tg env c f (rngV (lo + s) m) = .ok (((List.range m).map fun k => g (s + k)).map nv) := by
    intro m
    induction m with
    | zero => intro s _; rfl
    | succ m ih =>
      intro s h
      obtain ⟨env1, h1, h2, h3⟩ := h 0 (Nat.succ_pos m)
      have ih := ih (s + 1) fun k hk => by
        obtain ⟨env2, g1, g2, g3⟩ := h (k + 1) (by omega)
        exact ⟨env2, by rw [show s + 1 + k = s + (k + 1) by omega]; exact g1, g2, by rw [show s + 1 + k = s + (k + 1) by omega]; exact g3⟩
      rw [rngV_succ, lc_cons]
      have h1 : bindT tg env (.int (lo + (s : Int))) = .ok env1 := h1
      rw [h1]
      have e1 : (lo + (s : Int) + 1) = lo + ((s + 1 : Nat) : Int) := by omega
      rw [e1, ih]
      simp only [R.bind_ok, h2, h3, if_true]
      have em : (List.range m).map (fun k => g (s + 1 + k)) = (List.range m).map ((fun k => g (s + k)) ∘ Nat.succ) := List.map_congr_left fun k _ => by
        show g (s + 1 + k) = g (s + (k + 1))
        congr 1; omega
      rw [em, List.range_succ_eq_map, List.map_cons, List.map_cons, ← List.map_map (f := Nat.succ)]
  have h0 := this m 0 (by simpa using h)
  simpa using h0
theorem get_app {a b : List Rat} {k : Nat} : (a ++ b)[a.length + k]? = b[k]? := by
  rw [List.getElem?_append_right (Nat.le_add_right _ _), Nat.add_sub_cancel_left]
theorem ix_last {l : List Rat} {q : Rat} {L : Val} (hL : L = lv (l ++ [q]) ∨ L = cv (l ++ [q])) : evIx L (.int (-1)) = .ok (nv q) := by
  have h : L2.atI (l ++ [q]) (-1) = some q := by
    unfold L2.atI L2.ixN
    rw [if_neg (by decide), if_pos (by simp; omega)]
    show (l ++ [q])[((-1 : Int) + ((l ++ [q]).length : Int)).toNat]? = some q
    have : ((-1 : Int) + ((l ++ [q]).length : Int)).toNat = l.length := by simp; omega
    rw [this]; simp
  rcases hL with rfl | rfl
  · rw [ix_lv, h]; rfl
  · rw [ix_cv, h]; rfl
theorem lc_ex {tg : Tg} {env : Env} {c : Env → R Bool} {f : Env → R Val} {p : Nat → Rat → Prop} : ∀ (m : Nat) (lo : Int) (s : Nat), (∀ k : Nat, k < m → ∃ env1 q, bindT tg env (.int (lo + (s + k : Nat))) = .ok env1 ∧ c env1 = .ok true ∧ f env1 = .ok (nv q) ∧ p (s + k) q) → ∃ l : List Rat, l.length = m ∧ (∀ k q, l[k]? = some q → p (s + k) q) ∧ lcLoop tg env c f (rngV (lo + s) m) = .ok (l.map nv)
  | 0, lo, s, _ => ⟨[], rfl, by simp, rfl⟩
  | m + 1, lo, s, h => by
    obtain ⟨env1, q, h1, h2, h3, h4⟩ := h 0 (Nat.succ_pos m)
    obtain ⟨l, e1, e2, e3⟩ := lc_ex (p := p) m lo (s + 1) fun k hk => by
      obtain ⟨env2, q, g1, g2, g3, g4⟩ := h (k + 1) (by omega)
      exact ⟨env2, q, by rw [show s + 1 + k = s + (k + 1) by omega]; exact g1, g2, g3, by rw [show s + 1 + k = s + (k + 1) by omega]; exact g4⟩
    refine ⟨q :: l, by simp [e1], fun k r hk => ?_, ?_⟩
    · cases k with
      | zero => cases hk; exact h4
      | succ k => have := e2 k r hk; rw [show s + 1 + k = s + (k + 1) by omega] at this; exact this
    · have h1 : bindT tg env (.int (lo + (s : Int))) = .ok env1 := h1
      rw [rngV_succ, lc_cons, h1, show lo + (s : Int) + 1 = lo + ((s + 1 : Nat) : Int) by omega, e3]
      simp only [R.bind_ok, h2, h3, if_true, List.map_cons]
theorem lcR_ex {cl : Nat → List Val → R (Val × Bool)} {tg : Tg} {env : Env} {cond : Option E} {el : E} {p : Nat → Rat → Prop} {m : Nat} {lo : Int} (hm : m ≤ 1000000) (h : ∀ k : Nat, k < m → ∃ env1 q, bindT tg (wipeE env (tgs tg)) (.int (lo + k)) = .ok env1 ∧ evC cl cond env1 = .ok true ∧ (evE cl el env1).map (·.1) = .ok (nv q) ∧ p k q) :
    ∃ l : List Rat, l.length = m ∧ (∀ k q, l[k]? = some q → p k q) ∧ lcR cl (.ok (rngV lo m)) tg cond el env = .ok (lv l) := by
  obtain ⟨l, e1, e2, e3⟩ := lc_ex (p := p) (tg := tg) (env := wipeE env (tgs tg)) (c := fun env' => (evC cl cond env').noexc) (f := fun env' => (vlE cl el env').noexc) m lo 0 fun k hk => by
    obtain ⟨env1, q, g1, g2, g3, g4⟩ := h k hk
    refine ⟨env1, q, by rw [Nat.zero_add]; exact g1, by rw [g2]; rfl, ?_, by rw [Nat.zero_add]; exact g4⟩
    unfold vlE; rw [g3]; rfl
  refine ⟨l, e1, fun k q hk => by have := e2 k q hk; rwa [Nat.zero_add] at this, ?_⟩
  have hl : (rngV lo m).length = m := by unfold rngV; simp
  rw [lcR_ok, hl, if_pos (lenOk_lit hm)]
  have e3 : lcLoop tg (wipeE env (tgs tg)) (fun env' => (evC cl cond env').noexc) (fun env' => (vlE cl el env').noexc) (rngV lo m) = .ok (l.map nv) := by
    have e0 : lo + ((0 : Nat) : Int) = lo := by omega
    rw [e0] at e3; exact e3
  rw [e3]; rfl
theorem ownS_lv {l : List Rat} : ownS (some (some (lv l, true))) = .ok (l.map nv) := rfl
theorem noLs_nv : ∀ {l : List Rat}, noLs (l.map nv) = true
  | [] => rfl
  | a :: l => by show (noL (nv a) && noLs (l.map nv)) = true; rw [noLs_nv]; rfl
theorem back_bl {b f : Bool} : backOk (.bl b, f) = true := rfl
theorem back_int {i : Int} {f : Bool} : backOk (.int i, f) = true := rfl
theorem back_nv {q : Rat} {f : Bool} : backOk (nv q, f) = true := rfl
theorem back_cv {l : List Rat} {f : Bool} : backOk (cv l, f) = true := by
  unfold backOk
  have : noL (cv l) = true := noLs_nv
  rw [this]; rfl
theorem back_lv {l : List Rat} : backOk (lv l, true) = true := by
  show (false || (true && noLs (l.map nv))) = true
  rw [noLs_nv]; rfl
theorem slc_last {l : List Rat} {q : Rat} : evSlc (some (-1)) none (lv (l ++ [q])) = .ok (lv [q]) := by
  show R.ok (Val.lst (cut ((l ++ [q]).map nv) (some (-1)) none)) = _
  have : cut ((l ++ [q]).map nv) (some (-1)) none = [nv q] := by
    unfold cut
    have e1 : HT.sIx ((l ++ [q]).map nv).length 0 (some (-1)) = l.length := by
      show (if (-1 : Int) < 0 then ((-1 : Int) + (((l ++ [q]).map nv).length : Int)).toNat else min (-1 : Int).toNat ((l ++ [q]).map nv).length) = _
      rw [if_pos (by decide)]; simp; omega
    have e2 : HT.sIx ((l ++ [q]).map nv).length ((l ++ [q]).map nv).length none = ((l ++ [q]).map nv).length := rfl
    rw [e1, e2, List.map_append, List.drop_left' (by simp)]
    rw [List.length_append, List.length_map, Nat.add_sub_cancel_left]; rfl
  rw [this]; rfl
theorem c_eqS {s t : Str} (h : (dat (.str s)).canLay0 = true) (h2 : (dat (.str t)).canLay0 = true) : evCmp .eq (.str s) (.str t) = .ok (.bl (s == t)) := by
  rw [c_eqV (m := 0) (n := 0) ⟨rfl, h, Nat.zero_le _⟩ ⟨rfl, h2, Nat.zero_le _⟩ (by decide) (by decide), vEq_str]
theorem c_eqB {a b : Bool} : evCmp .eq (.bl a) (.bl b) = .ok (.bl (decide (a = b))) := by rw [c_eqV (m := 0) (n := 0) (.bl a) (.bl b) (by decide) (by decide), vEq_bl]
theorem c_neB {a b : Bool} : evCmp .ne (.bl a) (.bl b) = .ok (.bl (!decide (a = b))) := by rw [c_neV (m := 0) (n := 0) (.bl a) (.bl b) (by decide) (by decide), vEq_bl]
end G

set_option linter.all false
set_option maxHeartbeats 1000000
set_option maxRecDepth 10000
/-! F4: the laws' own reckoning of fractions. -/
namespace G
open PySem
local macro_rules | `(tactic| walk_at "ev") => `(tactic| simp only [vl_nm, vl_bor, vl_cst, vl_bin, vl_neg, vl_cmp, vl_isn, vl_chn, vl_inn, vl_and, vl_or, vl_not, vl_ifx, vl_ix, vl_slc, vl_rev, vl_tup, vl_lst, vl_call, vl_blt, vl_isi, vl_lc, ev_nm, ev_cst, ev_bin, ev_neg, ev_cmp, ev_isn, ev_chn, ev_inn, ev_and, ev_or, ev_not, ev_ifx, ev_ix, ev_slc, ev_rev, ev_tup, ev_lst, ev_call, ev_blt, ev_isi, ev_lc, evEs_nil, evEs_cons, evAs_nil, evAs_cons, evO_none, evO_some, evC_none, evC_some, evIt_val, evIt_rng1, evIt_rng2, evIt_rvd, evT_vl, andR_t, andR_f, orR_f, orR_t, ifxR_t, ifxR_f, chnR_t, chnR_f, ss_nil', ss_cons', thn_nx, thn_ret, thn_exc, thn_bad, s_set', set_ok, set_exc, s_unp', unp_ok, s_ifs', if_t, if_f, s_for', for_ok, s_whl', s_ret', s_retn', s_pass', s_rse', s_exp', s_try', try_nx, try_ret, try_exc, s_par', s_par3', s_six', s_app', s_pop', s_popu', s_rev', rO_ok, rO_exc, ret_nm, ret_bor, ret_cst, ret_bin, ret_neg, ret_cmp, ret_isn, ret_chn, ret_inn, ret_and, ret_or, ret_not, ret_ifx, ret_ix, ret_slc, ret_rev, ret_tup, ret_lst, ret_call, ret_blt, ret_isi, ret_lc, fin_nx, fin_ret, fin_exc, b_add, b_sub, b_mul, b_fdiv, b_mod, p11, p12, p30, p42, p57, p59, b_addL, b_addT, b_mulL, c_lt, c_le, c_gt, c_ge, truth_bl, toI_int, toB_bl, items_lst, items_tup, len_lst, len_tup, len_scr, abs_int, int_int, int_bl, list_lst, list_tup, list_scr, tuple_lst, tuple_tup, max_int, min_int, ix_p0, ix_p1, c_eqI, c_neI, startE, frzE, frzI, frzAll, frz, kept, keptL, keptO, keptI, put, look, lookF, ownL_s, ownS_lst, evCall, lent, borI, bind_one, bind_tup, putAll, isLst_int, isLst_bl, isLst_str, isLst_tup, isLst_non, isLst_scr, isLst_exc, isLst_lst, isNon_int, isNon_bl, isNon_str, isNon_tup, isNon_non, isNon_scr, isNon_exc, isNon_lst, R.bind_ok, R.bind_exc, R.map_ok, R.map_exc, List.map_cons, List.map_nil, List.length_cons, List.length_nil, List.replicate, List.cons_append, List.nil_append, List.append_nil, List.getElem?_cons_zero, List.getElem?_cons_succ, List.set_cons_zero, List.set_cons_succ, Bool.false_and, Bool.true_and, Bool.and_true, Bool.and_false, Bool.or_false, Bool.false_or, Bool.or_true, Bool.true_or, Bool.not_true, Bool.not_false, decide_true, decide_false, if_true, if_false, ite_true, ite_false, reduceCtorEq, reduceIte, Nat.reduceAdd, Nat.reduceSub, Nat.reduceMul, Nat.reduceEqDiff, Int.reduceEq, Int.reduceLT, Int.reduceLE, Int.reduceNe, Int.reduceNeg, Int.reduceAdd, Int.reduceMul, Int.reduceSub, Nat.reduceLT, Nat.reduceLeDiff, Int.reduceGT, Int.reduceGE, is_tup_tuple, is_tup_list, is_tup_int, is_tup_bool, is_tup_str, is_lst_tuple, is_lst_list, is_lst_int, is_lst_bool, is_lst_str, is_int_tuple, is_int_list, is_int_int, is_int_bool, is_int_str, is_bl_tuple, is_bl_list, is_bl_int, is_bl_bool, is_bl_str, is_str_tuple, is_str_list, is_str_int, is_str_bool, is_str_str, is_non_tuple, is_non_list, is_non_int, is_non_bool, is_non_str, forS_ok, forB_nx, forB_ret, forL_nil, lc_nil, Int.cast_ofNat_Int, lc_cons, vlE_d, lenOk0, lenOk1, lenOk2, lenOk3, wipe1, wipe2, R.noexc_ok, decide_eq_true_eq, eq_self, ix_nv0, ix_nv1, is_nv_tuple, is_cv_tuple, is_lv_list, is_lv_tuple, is_cv_list, isLst_nv, isLst_cv, isLst_lv, isNon_nv, isNon_cv, isNon_lv, bind_nv, items_cv, items_lv, len_cv, len_lv, list_cv, list_lv, tuple_cv, tuple_lv, c_eqN, c_neN, c_eqC, c_neC, c_eqL, c_neL, nv01, nv11, cv_nil, cv_one, rev_lv, rev_cv, lv_one, lv_map, cv_map, lenOk_map, List.length_map, ownS_lv, back_bl, back_int, back_nv, back_cv, back_lv, c_eqB, c_neB])
local macro_rules | `(tactic| walk_at "evh") => `(tactic| simp only [vl_nm, vl_bor, vl_cst, vl_bin, vl_neg, vl_cmp, vl_isn, vl_chn, vl_inn, vl_and, vl_or, vl_not, vl_ifx, vl_ix, vl_slc, vl_rev, vl_tup, vl_lst, vl_call, vl_blt, vl_isi, vl_lc, ev_nm, ev_cst, ev_bin, ev_neg, ev_cmp, ev_isn, ev_chn, ev_inn, ev_and, ev_or, ev_not, ev_ifx, ev_ix, ev_slc, ev_rev, ev_tup, ev_lst, ev_call, ev_blt, ev_isi, ev_lc, evEs_nil, evEs_cons, evAs_nil, evAs_cons, evO_none, evO_some, evC_none, evC_some, evIt_val, evIt_rng1, evIt_rng2, evIt_rvd, evT_vl, andR_t, andR_f, orR_f, orR_t, ifxR_t, ifxR_f, chnR_t, chnR_f, ss_nil', ss_cons', thn_nx, thn_ret, thn_exc, thn_bad, s_set', set_ok, set_exc, s_unp', unp_ok, s_ifs', if_t, if_f, s_for', for_ok, s_whl', s_ret', s_retn', s_pass', s_rse', s_exp', s_try', try_nx, try_ret, try_exc, s_par', s_par3', s_six', s_app', s_pop', s_popu', s_rev', rO_ok, rO_exc, ret_nm, ret_bor, ret_cst, ret_bin, ret_neg, ret_cmp, ret_isn, ret_chn, ret_inn, ret_and, ret_or, ret_not, ret_ifx, ret_ix, ret_slc, ret_rev, ret_tup, ret_lst, ret_call, ret_blt, ret_isi, ret_lc, fin_nx, fin_ret, fin_exc, b_add, b_sub, b_mul, b_fdiv, b_mod, p11, p12, p30, p42, p57, p59, b_addL, b_addT, b_mulL, c_lt, c_le, c_gt, c_ge, truth_bl, toI_int, toB_bl, items_lst, items_tup, len_lst, len_tup, len_scr, abs_int, int_int, int_bl, list_lst, list_tup, list_scr, tuple_lst, tuple_tup, max_int, min_int, ix_p0, ix_p1, c_eqI, c_neI, startE, frzE, frzI, frzAll, frz, kept, keptL, keptO, keptI, put, look, lookF, ownL_s, ownS_lst, evCall, lent, borI, bind_one, bind_tup, putAll, isLst_int, isLst_bl, isLst_str, isLst_tup, isLst_non, isLst_scr, isLst_exc, isLst_lst, isNon_int, isNon_bl, isNon_str, isNon_tup, isNon_non, isNon_scr, isNon_exc, isNon_lst, R.bind_ok, R.bind_exc, R.map_ok, R.map_exc, List.map_cons, List.map_nil, List.length_cons, List.length_nil, List.replicate, List.cons_append, List.nil_append, List.append_nil, List.getElem?_cons_zero, List.getElem?_cons_succ, List.set_cons_zero, List.set_cons_succ, Bool.false_and, Bool.true_and, Bool.and_true, Bool.and_false, Bool.or_false, Bool.false_or, Bool.or_true, Bool.true_or, Bool.not_true, Bool.not_false, decide_true, decide_false, if_true, if_false, ite_true, ite_false, reduceCtorEq, reduceIte, Nat.reduceAdd, Nat.reduceSub, Nat.reduceMul, Nat.reduceEqDiff, Int.reduceEq, Int.reduceLT, Int.reduceLE, Int.reduceNe, Int.reduceNeg, Int.reduceAdd, Int.reduceMul, Int.reduceSub, Nat.reduceLT, Nat.reduceLeDiff, Int.reduceGT, Int.reduceGE, is_tup_tuple, is_tup_list, is_tup_int, is_tup_bool, is_tup_str, is_lst_tuple, is_lst_list, is_lst_int, is_lst_bool, is_lst_str, is_int_tuple, is_int_list, is_int_int, is_int_bool, is_int_str, is_bl_tuple, is_bl_list, is_bl_int, is_bl_bool, is_bl_str, is_str_tuple, is_str_list, is_str_int, is_str_bool, is_str_str, is_non_tuple, is_non_list, is_non_int, is_non_bool, is_non_str, forS_ok, forB_nx, forB_ret, forL_nil, lc_nil, Int.cast_ofNat_Int, lc_cons, vlE_d, lenOk0, lenOk1, lenOk2, lenOk3, wipe1, wipe2, R.noexc_ok, decide_eq_true_eq, eq_self, ix_nv0, ix_nv1, is_nv_tuple, is_cv_tuple, is_lv_list, is_lv_tuple, is_cv_list, isLst_nv, isLst_cv, isLst_lv, isNon_nv, isNon_cv, isNon_lv, bind_nv, items_cv, items_lv, len_cv, len_lv, list_cv, list_lv, tuple_cv, tuple_lv, c_eqN, c_neN, c_eqC, c_neC, c_eqL, c_neL, nv01, nv11, cv_nil, cv_one, rev_lv, rev_cv, lv_one, lv_map, cv_map, lenOk_map, List.length_map, ownS_lv, back_bl, back_int, back_nv, back_cv, back_lv, c_eqB, c_neB, *])
def fd_law_divisor : FD := ⟨2, 2, [.whl (.cmp .ne (.bor 1) (.cst (.int 0))) [.par 0 1 (.nm 1) (.bin .mod (.bor 0) (.bor 1))], .ret (.blt .abs [(.bor 0)])]⟩
/-- the version that takes signs off the bottom -/
def fd_law_lowS : FD := ⟨2, 3, [.ifs (.cmp .lt (.bor 1) (.cst (.int 0))) [.set 0 (.bin .sub (.cst (.int 0)) (.bor 0)), .set 1 (.bin .sub (.cst (.int 0)) (.bor 1))] [], .set 2 (.call 124 [(.nm 0), (.nm 1)]), .ret (.tup [(.bin .fdiv (.bor 0) (.bor 2)), (.bin .fdiv (.bor 1) (.bor 2))])]⟩
def fd_law_low : FD := ⟨2, 3, [.set 2 (.call 124 [(.nm 0), (.nm 1)]), .ret (.tup [(.bin .fdiv (.bor 0) (.bor 2)), (.bin .fdiv (.bor 1) (.bor 2))])]⟩
section
variable {FT : Nat → Option FD}
theorem lw_loop {cl : Nat → List Val → R (Val × Bool)} : ∀ (n : Nat) (a b : Int), b.natAbs ≤ n → ∃ g : Int, g.natAbs = Int.gcd a b ∧ whlO cl (.cmp .ne (.bor 1) (.cst (.int 0))) [.par 0 1 (.nm 1) (.bin .mod (.bor 0) (.bor 1))] [some (.int a, false), some (.int b, false)] = .nx [some (.int g, false), some (.int 0, false)] := fun n a b hn => by
  by_cases h : b = 0
  · subst h
    exact ⟨a, by simp, whlO_f (by walk_at "ev")⟩
  · rw [whlO_t (env' := [some (.int b, false), some (.int (a.fmod b), false)]) (by walk_at "evh") (by walk_at "evh")]
    have h1 := fmod_small (a := a) h
    cases n with
    | zero => omega
    | succ n =>
      obtain ⟨g, e1, e2⟩ := lw_loop n b (a.fmod b) (by omega)
      exact ⟨g, by rw [e1, gcd_fmod], e2⟩
theorem callF_ldiv (h : FT 124 = some fd_law_divisor) {n : Nat} {a b : Int} : callF FT (n + 1) 124 [.int a, .int b] = .ok (.int (Int.gcd a b), false) := by
  rw [callF_s h rfl]
  obtain ⟨g, e1, e⟩ := lw_loop (cl := callF FT n) b.natAbs a b (Nat.le_refl _)
  have eg : (if g < 0 then -g else g) = (Int.gcd a b : Int) := by rw [← e1]; split <;> omega
  unfold fd_law_divisor
  rw [← eg]
  walk_at "evh"
theorem callF_low (h : FT 124 = some fd_law_divisor) (h2 : FT 128 = some fd_law_low) {n : Nat} {t b : Int} (hb : 0 < b) : callF FT (n + 2) 128 [.int t, .int b] = .ok (nv (Rat.divInt t b), false) := by
  rw [callF_s h2 rfl]
  have e := callF_ldiv h (n := n) (a := t) (b := b)
  have h2 : ¬ ((Int.gcd t b : Nat) : Int) = 0 := by have := gcd_pos (a := t) (b := b) (by omega); omega
  unfold fd_law_low
  unfold nv
  rw [divInt_num hb, divInt_den hb]
  clear hb
  walk_at "evh"
theorem callF_lowS (h : FT 124 = some fd_law_divisor) (h2 : FT 128 = some fd_law_lowS) {n : Nat} {t b : Int} (hb : b ≠ 0) : callF FT (n + 2) 128 [.int t, .int b] = .ok (nv (Rat.divInt t b), false) := by
  rw [callF_s h2 rfl]
  have gp := gcd_pos (a := t) hb
  rcases Int.lt_or_gt_of_ne hb with hn | hn
  · have e := callF_ldiv h (n := n) (a := 0 - t) (b := 0 - b)
    have h2 : ¬ ((Int.gcd (0 - t) (0 - b) : Nat) : Int) = 0 := by have := gcd_pos (a := 0 - t) (b := 0 - b) (by omega); omega
    have en : (nv (Rat.divInt t b)) = .tup [.int ((0 - t).fdiv (Int.gcd (0 - t) (0 - b))), .int ((0 - b).fdiv (Int.gcd (0 - t) (0 - b)))] := by
      unfold nv
      rw [← Rat.neg_divInt_neg, divInt_num (by omega), divInt_den (by omega), show 0 - t = -t by omega, show 0 - b = -b by omega]
    rw [en]
    unfold fd_law_lowS
    clear hb gp en
    walk_at "evh"
  · have e := callF_ldiv h (n := n) (a := t) (b := b)
    have h2 : ¬ ((Int.gcd t b : Nat) : Int) = 0 := by omega
    have h3 : ¬ b < 0 := by omega
    unfold fd_law_lowS
    unfold nv
    rw [divInt_num hn, divInt_den hn]
    clear hb gp hn
    walk_at "evh"
end
end G

set_option linter.all false
set_option maxHeartbeats 1000000
/-! M2: curves, plain: lists of fractions, from the lowest power on. -/
namespace G
/-- the worth at a place -/
def ev : List Rat → Rat → Rat
  | [], _ => 0
  | a :: l, x => a + x * ev l x
def trim : List Rat → List Rat
  | [] => []
  | a :: l => if trim l = [] ∧ a = 0 then [] else a :: trim l
/-- no nought at the end -/
def Trim (l : List Rat) : Prop := trim l = l
def co (l : List Rat) (k : Nat) : Rat := l.getD k 0
theorem ev_nil {x : Rat} : ev [] x = 0 := rfl
theorem ev_cons {a : Rat} {l : List Rat} {x : Rat} : ev (a :: l) x = a + x * ev l x := rfl
theorem ev_trim {x : Rat} : ∀ l : List Rat, ev (trim l) x = ev l x
  | [] => rfl
  | a :: l => by
    unfold trim
    have ih := ev_trim (x := x) l
    split
    · rename_i h
      rw [h.1] at ih
      rw [ev_cons, ← ih, h.2, ev_nil]; grind
    · rw [ev_cons, ev_cons, ih]
theorem trim_trim : ∀ l : List Rat, Trim (trim l)
  | [] => rfl
  | a :: l => by
    have ih := trim_trim l
    unfold Trim at *
    by_cases h : trim l = [] ∧ a = 0
    · rw [show trim (a :: l) = [] by unfold trim; rw [if_pos h]]; rfl
    · rw [show trim (a :: l) = a :: trim l by rw [trim, if_neg h]]
      rw [trim, ih, if_neg h]
theorem Trim.nil : Trim [] := rfl
theorem trim_len : ∀ l : List Rat, (trim l).length ≤ l.length
  | [] => Nat.le_refl _
  | a :: l => by
    unfold trim
    split
    · exact Nat.zero_le _
    · exact Nat.succ_le_succ (trim_len l)
theorem trim_mem : ∀ {l : List Rat} {q : Rat}, q ∈ trim l → q ∈ l
  | [], q, h => h
  | a :: l, q, h => by
    unfold trim at h
    split at h
    · cases h
    · rcases List.mem_cons.mp h with rfl | h
      · exact List.mem_cons_self
      · exact List.mem_cons_of_mem _ (trim_mem h)
theorem trim_zero : ∀ {l : List Rat}, (∀ a ∈ l, a = 0) → trim l = []
  | [], _ => rfl
  | a :: l, h => by
    rw [trim, if_pos ⟨trim_zero fun b hb => h b (List.mem_cons_of_mem _ hb), h a List.mem_cons_self⟩]
theorem trim_snoc : ∀ (l : List Rat) (a : Rat), trim (l ++ [a]) = if a = 0 then trim l else l ++ [a]
  | [], a => by
    show (if trim [] = [] ∧ a = 0 then [] else a :: trim []) = _
    by_cases h : a = 0
    · rw [if_pos ⟨rfl, h⟩, if_pos h]; rfl
    · rw [if_neg fun z => h z.2, if_neg h]; rfl
  | b :: l, a => by
    show (if trim (l ++ [a]) = [] ∧ b = 0 then [] else b :: trim (l ++ [a])) = _
    rw [trim_snoc l a]
    by_cases h : a = 0
    · rw [if_pos h, if_pos h]; rfl
    · rw [if_neg h, if_neg h, if_neg (by simp)]; rfl
theorem Trim.last {l : List Rat} {a : Rat} (h : a ≠ 0) : Trim (l ++ [a]) := by
  unfold Trim; rw [trim_snoc, if_neg h]
theorem Trim.of_last {l : List Rat} {a : Rat} (h : Trim (l ++ [a])) : a ≠ 0 := fun z => by
  unfold Trim at h
  rw [trim_snoc, if_pos z] at h
  have := trim_len l
  rw [h] at this; simp at this; omega
theorem Trim.tail {a : Rat} {l : List Rat} (h : Trim (a :: l)) : Trim l := by
  unfold Trim at *
  rw [trim] at h
  split at h
  · cases h
  · exact (List.cons.inj h).2
theorem Trim.cons {a : Rat} {l : List Rat} (h : Trim l) (hl : l ≠ [] ∨ a ≠ 0) : Trim (a :: l) := by
  unfold Trim at *
  rw [trim, h, if_neg]
  rintro ⟨h1, h2⟩
  rcases hl with z | z
  · exact z h1
  · exact z h2
theorem Trim.not_zero {l : List Rat} (h : Trim l) (hz : ∀ a ∈ l, a = 0) : l = [] := h.symm.trans (trim_zero hz)
/-! ### how many places -/
theorem syn (r : Rat) : ∀ l : List Rat, ∃ q : List Rat, q.length + 1 = l.length ∨ (l = [] ∧ q = []) := fun l => by
  cases l with
  | nil => exact ⟨[], .inr ⟨rfl, rfl⟩⟩
  | cons a l => exact ⟨l, .inl rfl⟩
/-- the quotient by x - r -/
def quo (r : Rat) : List Rat → List Rat
  | [] => []
  | [_] => []
  | _ :: b :: l => ev (b :: l) r :: quo r (b :: l)
theorem quo_len (r : Rat) : ∀ l : List Rat, (quo r l).length = l.length - 1
  | [] => rfl
  | [_] => rfl
  | _ :: b :: l => by
    show (quo r (b :: l)).length + 1 = l.length + 1
    rw [quo_len r (b :: l)]; rfl
theorem quo_ev (r x : Rat) : ∀ l : List Rat, ev l x = ev l r + (x - r) * ev (quo r l) x
  | [] => by show (0 : Rat) = 0 + (x - r) * 0; grind
  | [a] => by show a + x * 0 = a + r * 0 + (x - r) * 0; grind
  | a :: b :: l => by
    have ih := quo_ev r x (b :: l)
    show a + x * ev (b :: l) x = a + r * ev (b :: l) r + (x - r) * (ev (b :: l) r + x * ev (quo r (b :: l)) x)
    rw [ih]; grind
theorem quo_zero (r : Rat) : ∀ l : List Rat, ev l r = 0 → (∀ a ∈ quo r l, a = 0) → ∀ a ∈ l, a = 0
  | [], _, _ => by simp
  | [a], h, _ => by
    have h : a + r * 0 = 0 := h
    intro b hb
    rw [List.mem_singleton.mp hb]; grind
  | a :: b :: l, h, hq => by
    have h0 : ev (b :: l) r = 0 := hq _ List.mem_cons_self
    have ih := quo_zero r (b :: l) h0 fun c hc => hq c (List.mem_cons_of_mem _ hc)
    have h : a + r * ev (b :: l) r = 0 := h
    intro c hc
    rcases List.mem_cons.mp hc with rfl | hc
    · rw [h0] at h; grind
    · exact ih c hc
theorem roots_zero : ∀ (S l : List Rat), S.Nodup → l.length ≤ S.length → (∀ r ∈ S, ev l r = 0) → ∀ a ∈ l, a = 0
  | [], l, _, hl, _ => by
    have : l = [] := List.length_eq_zero_iff.mp (Nat.le_zero.mp hl)
    subst this; simp
  | r :: S, l, nd, hl, h => by
    have h0 := h r List.mem_cons_self
    obtain ⟨hr, nd⟩ := List.nodup_cons.mp nd
    refine quo_zero r l h0 (roots_zero S (quo r l) nd (by rw [quo_len]; simp at hl; omega) fun s hs => ?_)
    have e := quo_ev r s l
    rw [h s (List.mem_cons_of_mem _ hs), h0] at e
    have ne : s - r ≠ 0 := fun z => hr (by rw [show r = s by grind]; exact hs)
    have e : (s - r) * ev (quo r l) s = 0 := by grind
    rcases Rat.mul_eq_zero.mp e with z | z
    · exact absurd z ne
    · exact z
def nats (n : Nat) : List Rat := (List.range n).map fun i : Nat => (i : Rat)
theorem nats_nd (n : Nat) : (nats n).Nodup := by
  refine List.Pairwise.map _ (fun a b h e => h (Rat.natCast_inj.mp e)) List.nodup_range
/-- alike everywhere: nought -/
theorem ev_zero {l : List Rat} (h : ∀ x, ev l x = 0) : ∀ a ∈ l, a = 0 := roots_zero (nats l.length) l (nats_nd _) (by simp [nats]) fun r _ => h r
/-! ### reckoning -/
def addR : List Rat → List Rat → List Rat
  | [], m => m
  | l, [] => l
  | a :: l, b :: m => (a + b) :: addR l m
theorem addR_nil : ∀ l : List Rat, addR l [] = l
  | [] => rfl
  | _ :: _ => rfl
theorem ev_addR {x : Rat} : ∀ l m : List Rat, ev (addR l m) x = ev l x + ev m x
  | [], m => by show ev m x = 0 + ev m x; grind
  | a :: l, [] => by show ev (a :: l) x = ev (a :: l) x + 0; grind
  | a :: l, b :: m => by
    show (a + b) + x * ev (addR l m) x = (a + x * ev l x) + (b + x * ev m x)
    rw [ev_addR l m]; grind
def sclR (c : Rat) (l : List Rat) : List Rat := l.map fun a => a * c
theorem ev_scl {c x : Rat} : ∀ l : List Rat, ev (sclR c l) x = ev l x * c
  | [] => by show (0 : Rat) = 0 * c; grind
  | a :: l => by
    show a * c + x * ev (sclR c l) x = (a + x * ev l x) * c
    rw [ev_scl l]; grind
def mulR : List Rat → List Rat → List Rat
  | [], _ => []
  | a :: l, m => addR (sclR a m) (0 :: mulR l m)
theorem ev_mulR {x : Rat} : ∀ l m : List Rat, ev (mulR l m) x = ev l x * ev m x
  | [], m => by show (0 : Rat) = 0 * _; grind
  | a :: l, m => by
    show ev (addR (sclR a m) (0 :: mulR l m)) x = (a + x * ev l x) * ev m x
    rw [ev_addR, ev_scl, ev_cons, ev_mulR l m]; grind
/-- two curves with no nought at the end that are alike everywhere -/
theorem ev_inj : ∀ {l m : List Rat}, Trim l → Trim m → (∀ x, ev l x = ev m x) → l = m := fun {l m} hl hm h => by
  have hz : ∀ a ∈ addR l (sclR (-1) m), a = 0 := ev_zero fun x => by rw [ev_addR, ev_scl, h x]; grind
  have key : ∀ l m : List Rat, (∀ a ∈ addR l (sclR (-1) m), a = 0) → trim l = trim m := by
    intro l
    induction l with
    | nil =>
      intro m h
      have : ∀ a ∈ m, a = 0 := fun a ha => by
        have := h (a * -1) (List.mem_map.mpr ⟨a, ha, rfl⟩)
        grind
      rw [trim_zero this]; rfl
    | cons a l ih =>
      intro m h
      cases m with
      | nil =>
        have h : ∀ b ∈ a :: l, b = 0 := h
        rw [trim_zero h]; rfl
      | cons b m =>
        have h : ∀ c ∈ (a + b * -1) :: addR l (sclR (-1) m), c = 0 := h
        have h1 : a = b := by have := h _ List.mem_cons_self; grind
        rw [trim, trim, ih m fun c hc => h c (List.mem_cons_of_mem _ hc), h1]
  have := key l m hz
  rw [hl, hm] at this; exact this
theorem trim_rep (l : List Rat) : ∀ r : Nat, trim (l ++ List.replicate r 0) = trim l
  | 0 => by rw [List.replicate_zero, List.append_nil]
  | r + 1 => by rw [List.replicate_succ', ← List.append_assoc, trim_snoc, if_pos rfl, trim_rep l r]
theorem ev_set {x v : Rat} : ∀ (F : List Rat) (i : Nat), i < F.length → ev (F.set i (co F i + v)) x = ev F x + v * x ^ i
  | [], i, h => by simp at h
  | a :: F, 0, _ => by
    show (a + v) + x * ev F x = a + x * ev F x + v * x ^ 0
    grind
  | a :: F, i + 1, h => by
    have ih := ev_set (x := x) (v := v) F i (by simpa using h)
    have e : co (a :: F) (i + 1) = co F i := by unfold co; simp
    show a + x * ev (F.set i (co (a :: F) (i + 1) + v)) x = a + x * ev F x + v * x ^ (i + 1)
    rw [e, ih]; grind
theorem ev_rep {x : Rat} : ∀ n : Nat, ev (List.replicate n 0) x = 0
  | 0 => rfl
  | n + 1 => by
    show (0 : Rat) + x * ev (List.replicate n 0) x = 0
    rw [ev_rep n]; grind
theorem co_get {l : List Rat} {k : Nat} (h : k < l.length) : l[k]? = some (co l k) := by
  unfold co
  rw [List.getD_eq_getElem?_getD, List.getElem?_eq_getElem h]; rfl
theorem co_out {l : List Rat} {k : Nat} (h : l.length ≤ k) : co l k = 0 := by
  unfold co
  rw [List.getD_eq_getElem?_getD, List.getElem?_eq_none h]; rfl
theorem addR_len : ∀ l m : List Rat, (addR l m).length = max l.length m.length
  | [], m => by simp [addR]
  | a :: l, [] => by simp [addR]
  | a :: l, b :: m => by
    show (addR l m).length + 1 = max (l.length + 1) (m.length + 1)
    rw [addR_len l m]; omega
theorem addR_co : ∀ (l m : List Rat) (k : Nat), co (addR l m) k = co l k + co m k
  | [], m, k => by show co m k = 0 + co m k; grind
  | a :: l, [], k => by show co (a :: l) k = co (a :: l) k + 0; grind
  | a :: l, b :: m, 0 => rfl
  | a :: l, b :: m, k + 1 => by
    have := addR_co l m k
    show co (addR l m) k = co l k + co m k
    exact this
theorem list_co {l : List Rat} : l = (List.range l.length).map (co l) := by
  apply List.ext_getElem?
  intro k
  by_cases h : k < l.length
  · rw [co_get h, List.getElem?_map, List.getElem?_range h]; rfl
  · rw [List.getElem?_eq_none (by omega), List.getElem?_eq_none (by simp; omega)]
theorem addR_map (l m : List Rat) : addR l m = (List.range (max l.length m.length)).map fun k => co l k + co m k := by
  rw [list_co (l := addR l m), addR_len]
  exact List.map_congr_left fun k _ => addR_co l m k
/-! ### as the program tells them -/
def addP (l m : List Rat) : List Rat := trim (addR l m)
def sclP (l : List Rat) (c : Rat) : List Rat := trim (sclR c l)
def takP (l m : List Rat) : List Rat := addP l (sclP m (-1))
def mulP (l m : List Rat) : List Rat := trim (mulR l m)
theorem ev_addP {l m : List Rat} {x : Rat} : ev (addP l m) x = ev l x + ev m x := by unfold addP; rw [ev_trim, ev_addR]
theorem ev_sclP {l : List Rat} {c x : Rat} : ev (sclP l c) x = ev l x * c := by unfold sclP; rw [ev_trim, ev_scl]
theorem ev_takP {l m : List Rat} {x : Rat} : ev (takP l m) x = ev l x - ev m x := by unfold takP; rw [ev_addP, ev_sclP]; grind
theorem ev_mulP {l m : List Rat} {x : Rat} : ev (mulP l m) x = ev l x * ev m x := by unfold mulP; rw [ev_trim, ev_mulR]
theorem Trim.addP {l m : List Rat} : Trim (addP l m) := trim_trim _
theorem Trim.sclP {l : List Rat} {c : Rat} : Trim (sclP l c) := trim_trim _
theorem Trim.takP {l m : List Rat} : Trim (takP l m) := trim_trim _
theorem Trim.mulP {l m : List Rat} : Trim (mulP l m) := trim_trim _
theorem addP_comm (l m : List Rat) : addP l m = addP m l := ev_inj .addP .addP fun x => by rw [ev_addP, ev_addP]; grind
theorem mulP_comm (l m : List Rat) : mulP l m = mulP m l := ev_inj .mulP .mulP fun x => by rw [ev_mulP, ev_mulP]; grind
theorem mulR_len : ∀ (l m : List Rat), l ≠ [] → m ≠ [] → (mulR l m).length = l.length + m.length - 1
  | [], m, h, _ => absurd rfl h
  | [a], m, _, hm => by
    show (addR (sclR a m) [0]).length = _
    rw [addR_len]
    have : 0 < m.length := List.length_pos_iff.mpr hm
    simp [sclR]; omega
  | a :: b :: l, m, _, hm => by
    show (addR (sclR a m) (0 :: mulR (b :: l) m)).length = _
    rw [addR_len, List.length_cons, mulR_len (b :: l) m (by simp) hm]
    have : 0 < m.length := List.length_pos_iff.mpr hm
    simp [sclR]; omega
/-- the slope -/
def slpR (l : List Rat) : List Rat := (List.range (l.length - 1)).map fun k => co l (k + 1) * ((k + 1 : Nat) : Rat)
def dv : List Rat → List Rat
  | [] => []
  | _ :: l => addR l (0 :: dv l)
def wt (s : Rat) : List Rat → List Rat
  | [] => []
  | a :: l => a * s :: wt (s + 1) l
theorem wt_more {x : Rat} : ∀ (l : List Rat) (s : Rat), ev (wt (s + 1) l) x = ev (wt s l) x + ev l x
  | [], s => by show (0 : Rat) = 0 + 0; grind
  | a :: l, s => by
    show a * (s + 1) + x * ev (wt (s + 1 + 1) l) x = a * s + x * ev (wt (s + 1) l) x + (a + x * ev l x)
    rw [wt_more l (s + 1)]; grind
theorem ev_dv_cons {a x : Rat} {l : List Rat} : ev (dv (a :: l)) x = ev l x + x * ev (dv l) x := by
  show ev (addR l (0 :: dv l)) x = _
  rw [ev_addR, ev_cons]; grind
theorem wt_zero {x : Rat} : ∀ l : List Rat, ev (wt 0 l) x = x * ev (dv l) x
  | [] => by show (0 : Rat) = x * 0; grind
  | a :: l => by
    have h := wt_more (x := x) l 0
    have ih := wt_zero (x := x) l
    rw [ev_dv_cons]
    show a * 0 + x * ev (wt (0 + 1) l) x = x * (ev l x + x * ev (dv l) x)
    rw [h, ih]; grind
theorem wt_get : ∀ (l : List Rat) (s : Rat) (k : Nat), co (wt s l) k = co l k * (s + k)
  | [], s, k => by show co [] k = co [] k * _; rw [co_out (by simp)]; grind
  | a :: l, s, 0 => by show a * s = a * (s + ((0 : Nat) : Rat)); grind
  | a :: l, s, k + 1 => by
    have := wt_get l (s + 1) k
    show co (wt (s + 1) l) k = co l k * (s + ((k + 1 : Nat) : Rat))
    rw [this, Rat.natCast_add]; grind
theorem wt_len : ∀ (l : List Rat) (s : Rat), (wt s l).length = l.length
  | [], _ => rfl
  | a :: l, s => by show (wt (s + 1) l).length + 1 = _; rw [wt_len l]; rfl
theorem slpR_wt : ∀ l : List Rat, slpR l = match l with | [] => [] | _ :: t => wt 1 t
  | [] => rfl
  | a :: t => by
    show (List.range t.length).map (fun k => co (a :: t) (k + 1) * ((k + 1 : Nat) : Rat)) = wt 1 t
    rw [list_co (l := wt 1 t), wt_len]
    refine List.map_congr_left fun k _ => ?_
    have e : co (a :: t) (k + 1) = co t k := by unfold co; simp
    rw [wt_get, e, Rat.natCast_add]; grind
theorem ev_slp {x : Rat} : ∀ l : List Rat, ev (slpR l) x = ev (dv l) x
  | [] => rfl
  | a :: t => by
    rw [slpR_wt, ev_dv_cons]
    have h := wt_more (x := x) t 0
    rw [wt_zero] at h
    have e : (0 : Rat) + 1 = 1 := by grind
    rw [e] at h
    show ev (wt 1 t) x = _
    rw [h]; grind
theorem slpR_len (l : List Rat) : (slpR l).length = l.length - 1 := by unfold slpR; simp
theorem Trim.wt : ∀ {l : List Rat} {s : Rat}, Trim l → 0 < s → Trim (G.wt s l)
  | [], s, _, _ => rfl
  | a :: l, s, h, hs => by
    refine Trim.cons (Trim.wt h.tail (by grind)) ?_
    cases l with
    | nil =>
      right
      have ha : a ≠ 0 := Trim.of_last (l := []) h
      intro z
      rcases Rat.mul_eq_zero.mp z with z | z
      · exact ha z
      · grind
    | cons b l => left; simp [G.wt]
theorem Trim.slp {l : List Rat} (h : Trim l) : Trim (slpR l) := by
  rw [slpR_wt]
  cases l with
  | nil => rfl
  | cons a t => exact Trim.wt h.tail (by grind)
theorem dv_addR {x : Rat} : ∀ l m : List Rat, ev (dv (addR l m)) x = ev (dv l) x + ev (dv m) x
  | [], m => by show ev (dv m) x = 0 + _; grind
  | a :: l, [] => by show ev (dv (a :: l)) x = _ + 0; grind
  | a :: l, b :: m => by
    have ih := dv_addR (x := x) l m
    show ev (dv ((a + b) :: addR l m)) x = _
    rw [ev_dv_cons, ev_dv_cons, ev_dv_cons, ih, ev_addR]; grind
theorem dv_scl {c x : Rat} : ∀ l : List Rat, ev (dv (sclR c l)) x = ev (dv l) x * c
  | [] => by show (0 : Rat) = 0 * c; grind
  | a :: l => by
    have ih := dv_scl (c := c) (x := x) l
    show ev (dv (a * c :: sclR c l)) x = _
    rw [ev_dv_cons, ev_dv_cons, ih, ev_scl]; grind
theorem dv_mulR {x : Rat} : ∀ l m : List Rat, ev (dv (mulR l m)) x = ev (dv l) x * ev m x + ev l x * ev (dv m) x
  | [], m => by show (0 : Rat) = 0 * _ + 0 * _; grind
  | a :: l, m => by
    have ih := dv_mulR (x := x) l m
    show ev (dv (addR (sclR a m) (0 :: mulR l m))) x = _
    rw [dv_addR, dv_scl, ev_dv_cons, ev_dv_cons, ih, ev_mulR, ev_cons]; grind
theorem dv_trim {x : Rat} : ∀ l : List Rat, ev (dv (trim l)) x = ev (dv l) x
  | [] => rfl
  | a :: l => by
    have ih := dv_trim (x := x) l
    have ie := ev_trim (x := x) l
    rw [trim]
    split
    · rename_i h
      rw [h.1] at ih ie
      rw [ev_dv_cons, ← ih, ← ie]; show (0 : Rat) = 0 + x * 0; grind
    · rw [ev_dv_cons, ev_dv_cons, ih, ie]
theorem slp_mulP {l m : List Rat} : slpR (mulP l m) = addP (mulP (slpR l) m) (mulP l (slpR m)) := ev_inj Trim.mulP.slp .addP fun x => by
  rw [ev_slp, ev_addP, ev_mulP, ev_mulP, ev_slp, ev_slp]
  show ev (dv (trim (mulR l m))) x = _
  rw [dv_trim, dv_mulR]
theorem top_mulR : ∀ (l m : List Rat), l ≠ [] → m ≠ [] → co (mulR l m) (l.length - 1 + (m.length - 1)) = co l (l.length - 1) * co m (m.length - 1)
  | [], m, h, _ => absurd rfl h
  | [a], m, _, hm => by
    have hp : 0 < m.length := List.length_pos_iff.mpr hm
    show co (addR (sclR a m) [0]) (0 + (m.length - 1)) = a * _
    rw [addR_co, Nat.zero_add]
    have e1 : co (sclR a m) (m.length - 1) = co m (m.length - 1) * a := by
      have h1 := co_get (l := m) (k := m.length - 1) (by omega)
      have h2 := co_get (l := sclR a m) (k := m.length - 1) (by simp [sclR]; omega)
      unfold sclR at h2
      rw [List.getElem?_map, h1] at h2
      exact (Option.some.inj h2).symm
    have e2 : co [(0 : Rat)] (m.length - 1) = 0 := by
      cases m.length - 1 with
      | zero => rfl
      | succ n => rfl
    rw [e1, e2]; grind
  | a :: b :: l, m, _, hm => by
    have hp : 0 < m.length := List.length_pos_iff.mpr hm
    have ih := top_mulR (b :: l) m (by simp) hm
    have ek : (a :: b :: l).length - 1 + (m.length - 1) = ((b :: l).length - 1 + (m.length - 1)) + 1 := by simp; omega
    rw [ek]
    show co (addR (sclR a m) (0 :: mulR (b :: l) m)) (((b :: l).length - 1 + (m.length - 1)) + 1) = co (a :: b :: l) ((b :: l).length - 1 + 1) * _
    rw [addR_co, co_out (by simp [sclR]; omega)]
    show 0 + co (mulR (b :: l) m) ((b :: l).length - 1 + (m.length - 1)) = co (b :: l) ((b :: l).length - 1) * _
    rw [ih]; grind
theorem Trim.top {l : List Rat} (h : Trim l) (hl : l ≠ []) : co l (l.length - 1) ≠ 0 := by
  rcases List.eq_nil_or_concat l with rfl | ⟨t, a, rfl⟩
  · exact absurd rfl hl
  · rw [List.concat_eq_append] at h ⊢
    have := Trim.of_last h
    unfold co
    rw [List.getD_eq_getElem?_getD]; simpa using this
theorem Trim.of_top {l : List Rat} (h : co l (l.length - 1) ≠ 0) : Trim l := by
  rcases List.eq_nil_or_concat l with rfl | ⟨t, a, rfl⟩
  · rfl
  · rw [List.concat_eq_append] at h ⊢
    refine Trim.last fun z => h ?_
    unfold co
    rw [List.getD_eq_getElem?_getD]; simpa using z
theorem mulP_eq {l m : List Rat} (hl : Trim l) (hm : Trim m) (nl : l ≠ []) (nm : m ≠ []) : mulP l m = mulR l m := by
  refine Trim.of_top ?_
  rw [mulR_len l m nl nm]
  have h1 : 0 < l.length := List.length_pos_iff.mpr nl
  have h2 : 0 < m.length := List.length_pos_iff.mpr nm
  rw [show l.length + m.length - 1 - 1 = l.length - 1 + (m.length - 1) by omega, top_mulR l m nl nm]
  intro z
  rcases Rat.mul_eq_zero.mp z with z | z
  · exact hl.top nl z
  · exact hm.top nm z
theorem mulP_len {l m : List Rat} (hl : Trim l) (hm : Trim m) (nl : l ≠ []) (nm : m ≠ []) : (mulP l m).length = l.length + m.length - 1 := by
  rw [mulP_eq hl hm nl nm, mulR_len l m nl nm]
theorem mulR_nil : ∀ l : List Rat, ∀ a ∈ mulR l [], a = 0
  | [] => by simp [mulR]
  | a :: l => by
    intro b hb
    have hb : b ∈ (0 : Rat) :: mulR l [] := hb
    rcases List.mem_cons.mp hb with rfl | hb
    · rfl
    · exact mulR_nil l b hb
theorem mulP_nil (l : List Rat) : mulP l [] = [] := trim_zero (mulR_nil l)
theorem mulP_nil' (l : List Rat) : mulP [] l = [] := rfl
/-- f k, f (k+1), .. -/
def seg {α : Type} (f : Nat → α) (k d : Nat) : List α := (List.range d).map fun i => f (k + i)
theorem seg_zero {α : Type} {f : Nat → α} {k : Nat} : seg f k 0 = [] := rfl
theorem seg_succ {α : Type} {f : Nat → α} {k d : Nat} : seg f k (d + 1) = f k :: seg f (k + 1) d := by
  unfold seg
  rw [List.range_succ_eq_map, List.map_cons, List.map_map]
  congr 1
  exact List.map_congr_left fun i _ => by show f (k + (i + 1)) = f (k + 1 + i); congr 1; omega
theorem seg_len {α : Type} {f : Nat → α} {k d : Nat} : (seg f k d).length = d := by unfold seg; simp
theorem seg0 {α : Type} {f : Nat → α} {d : Nat} : seg f 0 d = (List.range d).map f := by
  unfold seg; exact List.map_congr_left fun i _ => by rw [Nat.zero_add]
/-! ### moved and stretched -/
def movP (c : Rat) : List Rat → List Rat
  | [] => []
  | a :: l => addP (mulP (movP c l) [-c, 1]) (trim [a])
theorem ev_mov {c x : Rat} : ∀ l : List Rat, ev (movP c l) x = ev l (x - c)
  | [] => rfl
  | a :: l => by
    show ev (addP (mulP (movP c l) [-c, 1]) (trim [a])) x = a + (x - c) * ev l (x - c)
    rw [ev_addP, ev_mulP, ev_mov l, ev_trim]
    show ev l (x - c) * (-c + x * (1 + x * 0)) + (a + x * 0) = _
    grind
theorem Trim.mov {c : Rat} : ∀ {l : List Rat}, Trim (movP c l)
  | [] => rfl
  | _ :: _ => Trim.addP
theorem addP_len (l m : List Rat) : (addP l m).length ≤ max l.length m.length := Nat.le_trans (trim_len _) (by rw [addR_len]; exact Nat.le_refl _)
theorem takP_len (l m : List Rat) : (takP l m).length ≤ max l.length m.length := by
  refine Nat.le_trans (addP_len _ _) ?_
  have : (sclP m (-1)).length ≤ m.length := Nat.le_trans (trim_len _) (by simp [sclR])
  omega
theorem mulR_le : ∀ l m : List Rat, (mulR l m).length ≤ l.length + m.length
  | [], m => by simp [mulR]
  | a :: l, m => by
    show (addR (sclR a m) (0 :: mulR l m)).length ≤ _
    rw [addR_len]
    have := mulR_le l m
    simp [sclR]; omega
theorem mulP_le (l m : List Rat) : (mulP l m).length ≤ l.length + m.length - 1 := by
  by_cases h1 : l = []
  · subst h1; exact Nat.zero_le _
  by_cases h2 : m = []
  · subst h2; rw [mulP_nil]; exact Nat.zero_le _
  exact Nat.le_trans (trim_len _) (by rw [mulR_len l m h1 h2]; exact Nat.le_refl _)
theorem mov_len {c : Rat} : ∀ l : List Rat, (movP c l).length ≤ l.length
  | [] => Nat.le_refl _
  | a :: l => by
    have ih := mov_len (c := c) l
    have h1 := addP_len (mulP (movP c l) [-c, 1]) (trim [a])
    have h2 := mulP_le (movP c l) [-c, 1]
    have h3 := trim_len [a]
    show (addP (mulP (movP c l) [-c, 1]) (trim [a])).length ≤ l.length + 1
    simp at h2 h3; omega
theorem mov_back {c : Rat} {l : List Rat} (h : Trim l) : movP (-c) (movP c l) = l := ev_inj .mov h fun x => by
  rw [ev_mov, ev_mov]; congr 1; grind
theorem mov_len_eq {c : Rat} {l : List Rat} (h : Trim l) : (movP c l).length = l.length := by
  have h1 := mov_len (c := c) l
  have h2 := mov_len (c := -c) (movP c l)
  rw [mov_back h] at h2; omega
theorem mov_zero {l : List Rat} (h : Trim l) : movP 0 l = l := ev_inj .mov h fun x => by
  rw [ev_mov]; congr 1; grind
def strG (k : Rat) (b : Rat) : List Rat → List Rat
  | [] => []
  | a :: l => a / b :: strG k (b * k) l
theorem ev_str {k x : Rat} (hk : k ≠ 0) : ∀ (l : List Rat) (b : Rat), b ≠ 0 → ev (strG k b l) x = ev l (x / k) / b
  | [], b, _ => by show (0 : Rat) = 0 / b; grind
  | a :: l, b, hb => by
    have hbk : b * k ≠ 0 := fun z => (Rat.mul_eq_zero.mp z).elim hb hk
    show a / b + x * ev (strG k (b * k) l) x = (a + x / k * ev l (x / k)) / b
    rw [ev_str hk l (b * k) hbk]
    grind
theorem str_len {k : Rat} : ∀ (l : List Rat) (b : Rat), (strG k b l).length = l.length
  | [], _ => rfl
  | a :: l, b => by show (strG k (b * k) l).length + 1 = _; rw [str_len l]; rfl
theorem Trim.str {k : Rat} (hk : k ≠ 0) : ∀ {l : List Rat} {b : Rat}, Trim l → b ≠ 0 → Trim (strG k b l)
  | [], _, _, _ => rfl
  | a :: l, b, h, hb => by
    have hbk : b * k ≠ 0 := fun z => (Rat.mul_eq_zero.mp z).elim hb hk
    refine Trim.cons (Trim.str hk h.tail hbk) ?_
    cases l with
    | nil =>
      right
      have ha : a ≠ 0 := Trim.of_last (l := []) h
      intro z
      apply ha
      have : a = a / b * b := by grind
      rw [this, z]; grind
    | cons c l => left; simp [strG]
theorem str_back {k : Rat} (hk : k ≠ 0) {l : List Rat} (h : Trim l) : strG k⁻¹ 1 (strG k 1 l) = l := by
  have hi : k⁻¹ ≠ 0 := by grind
  have h1 : (1 : Rat) ≠ 0 := by decide
  refine ev_inj (Trim.str hi (Trim.str hk h h1) h1) h fun x => ?_
  rw [ev_str hi _ _ h1, ev_str hk _ _ h1]
  have : x / k⁻¹ / k = x := by grind
  rw [this]; grind
theorem str_one {l : List Rat} (h : Trim l) : strG 1 1 l = l := by
  have h1 : (1 : Rat) ≠ 0 := by decide
  refine ev_inj (Trim.str h1 h h1) h fun x => ?_
  rw [ev_str h1 _ _ h1]
  have : x / 1 = x := by grind
  rw [this]; grind
end G

set_option linter.all false
set_option maxHeartbeats 1000000
set_option maxRecDepth 10000
/-! F5: curves. -/
namespace G
open PySem
local macro_rules | `(tactic| walk_at "ev") => `(tactic| simp only [vl_nm, vl_bor, vl_cst, vl_bin, vl_neg, vl_cmp, vl_isn, vl_chn, vl_inn, vl_and, vl_or, vl_not, vl_ifx, vl_ix, vl_slc, vl_rev, vl_tup, vl_lst, vl_call, vl_blt, vl_isi, vl_lc, ev_nm, ev_cst, ev_bin, ev_neg, ev_cmp, ev_isn, ev_chn, ev_inn, ev_and, ev_or, ev_not, ev_ifx, ev_ix, ev_slc, ev_rev, ev_tup, ev_lst, ev_call, ev_blt, ev_isi, ev_lc, evEs_nil, evEs_cons, evAs_nil, evAs_cons, evO_none, evO_some, evC_none, evC_some, evIt_val, evIt_rng1, evIt_rng2, evIt_rvd, evT_vl, andR_t, andR_f, orR_f, orR_t, ifxR_t, ifxR_f, chnR_t, chnR_f, ss_nil', ss_cons', thn_nx, thn_ret, thn_exc, thn_bad, s_set', set_ok, set_exc, s_unp', unp_ok, s_ifs', if_t, if_f, s_for', for_ok, s_whl', s_ret', s_retn', s_pass', s_rse', s_exp', s_try', try_nx, try_ret, try_exc, s_par', s_par3', s_six', s_app', s_pop', s_popu', s_rev', rO_ok, rO_exc, ret_nm, ret_bor, ret_cst, ret_bin, ret_neg, ret_cmp, ret_isn, ret_chn, ret_inn, ret_and, ret_or, ret_not, ret_ifx, ret_ix, ret_slc, ret_rev, ret_tup, ret_lst, ret_call, ret_blt, ret_isi, ret_lc, fin_nx, fin_ret, fin_exc, b_add, b_sub, b_mul, b_fdiv, b_mod, p11, p12, p30, p42, p57, p59, b_addL, b_addT, b_mulL, c_lt, c_le, c_gt, c_ge, truth_bl, toI_int, toB_bl, items_lst, items_tup, len_lst, len_tup, len_scr, abs_int, int_int, int_bl, list_lst, list_tup, list_scr, tuple_lst, tuple_tup, max_int, min_int, ix_p0, ix_p1, c_eqI, c_neI, startE, frzE, frzI, frzAll, frz, kept, keptL, keptO, keptI, put, look, lookF, ownL_s, ownS_lst, evCall, lent, borI, bind_one, bind_tup, putAll, isLst_int, isLst_bl, isLst_str, isLst_tup, isLst_non, isLst_scr, isLst_exc, isLst_lst, isNon_int, isNon_bl, isNon_str, isNon_tup, isNon_non, isNon_scr, isNon_exc, isNon_lst, R.bind_ok, R.bind_exc, R.map_ok, R.map_exc, List.map_cons, List.map_nil, List.length_cons, List.length_nil, List.replicate, List.cons_append, List.nil_append, List.append_nil, List.getElem?_cons_zero, List.getElem?_cons_succ, List.set_cons_zero, List.set_cons_succ, Bool.false_and, Bool.true_and, Bool.and_true, Bool.and_false, Bool.or_false, Bool.false_or, Bool.or_true, Bool.true_or, Bool.not_true, Bool.not_false, decide_true, decide_false, if_true, if_false, ite_true, ite_false, reduceCtorEq, reduceIte, Nat.reduceAdd, Nat.reduceSub, Nat.reduceMul, Nat.reduceEqDiff, Int.reduceEq, Int.reduceLT, Int.reduceLE, Int.reduceNe, Int.reduceNeg, Int.reduceAdd, Int.reduceMul, Int.reduceSub, Nat.reduceLT, Nat.reduceLeDiff, Int.reduceGT, Int.reduceGE, is_tup_tuple, is_tup_list, is_tup_int, is_tup_bool, is_tup_str, is_lst_tuple, is_lst_list, is_lst_int, is_lst_bool, is_lst_str, is_int_tuple, is_int_list, is_int_int, is_int_bool, is_int_str, is_bl_tuple, is_bl_list, is_bl_int, is_bl_bool, is_bl_str, is_str_tuple, is_str_list, is_str_int, is_str_bool, is_str_str, is_non_tuple, is_non_list, is_non_int, is_non_bool, is_non_str, forS_ok, forB_nx, forB_ret, forL_nil, lc_nil, Int.cast_ofNat_Int, lc_cons, vlE_d, lenOk0, lenOk1, lenOk2, lenOk3, wipe1, wipe2, R.noexc_ok, decide_eq_true_eq, eq_self, ix_nv0, ix_nv1, is_nv_tuple, is_cv_tuple, is_lv_list, is_lv_tuple, is_cv_list, isLst_nv, isLst_cv, isLst_lv, isNon_nv, isNon_cv, isNon_lv, bind_nv, items_cv, items_lv, len_cv, len_lv, list_cv, list_lv, tuple_cv, tuple_lv, c_eqN, c_neN, c_eqC, c_neC, c_eqL, c_neL, nv01, nv11, cv_nil, cv_one, rev_lv, rev_cv, lv_one, lv_map, cv_map, lenOk_map, List.length_map, ownS_lv, back_bl, back_int, back_nv, back_cv, back_lv, c_eqB, c_neB])
local macro_rules | `(tactic| walk_at "evh") => `(tactic| simp only [vl_nm, vl_bor, vl_cst, vl_bin, vl_neg, vl_cmp, vl_isn, vl_chn, vl_inn, vl_and, vl_or, vl_not, vl_ifx, vl_ix, vl_slc, vl_rev, vl_tup, vl_lst, vl_call, vl_blt, vl_isi, vl_lc, ev_nm, ev_cst, ev_bin, ev_neg, ev_cmp, ev_isn, ev_chn, ev_inn, ev_and, ev_or, ev_not, ev_ifx, ev_ix, ev_slc, ev_rev, ev_tup, ev_lst, ev_call, ev_blt, ev_isi, ev_lc, evEs_nil, evEs_cons, evAs_nil, evAs_cons, evO_none, evO_some, evC_none, evC_some, evIt_val, evIt_rng1, evIt_rng2, evIt_rvd, evT_vl, andR_t, andR_f, orR_f, orR_t, ifxR_t, ifxR_f, chnR_t, chnR_f, ss_nil', ss_cons', thn_nx, thn_ret, thn_exc, thn_bad, s_set', set_ok, set_exc, s_unp', unp_ok, s_ifs', if_t, if_f, s_for', for_ok, s_whl', s_ret', s_retn', s_pass', s_rse', s_exp', s_try', try_nx, try_ret, try_exc, s_par', s_par3', s_six', s_app', s_pop', s_popu', s_rev', rO_ok, rO_exc, ret_nm, ret_bor, ret_cst, ret_bin, ret_neg, ret_cmp, ret_isn, ret_chn, ret_inn, ret_and, ret_or, ret_not, ret_ifx, ret_ix, ret_slc, ret_rev, ret_tup, ret_lst, ret_call, ret_blt, ret_isi, ret_lc, fin_nx, fin_ret, fin_exc, b_add, b_sub, b_mul, b_fdiv, b_mod, p11, p12, p30, p42, p57, p59, b_addL, b_addT, b_mulL, c_lt, c_le, c_gt, c_ge, truth_bl, toI_int, toB_bl, items_lst, items_tup, len_lst, len_tup, len_scr, abs_int, int_int, int_bl, list_lst, list_tup, list_scr, tuple_lst, tuple_tup, max_int, min_int, ix_p0, ix_p1, c_eqI, c_neI, startE, frzE, frzI, frzAll, frz, kept, keptL, keptO, keptI, put, look, lookF, ownL_s, ownS_lst, evCall, lent, borI, bind_one, bind_tup, putAll, isLst_int, isLst_bl, isLst_str, isLst_tup, isLst_non, isLst_scr, isLst_exc, isLst_lst, isNon_int, isNon_bl, isNon_str, isNon_tup, isNon_non, isNon_scr, isNon_exc, isNon_lst, R.bind_ok, R.bind_exc, R.map_ok, R.map_exc, List.map_cons, List.map_nil, List.length_cons, List.length_nil, List.replicate, List.cons_append, List.nil_append, List.append_nil, List.getElem?_cons_zero, List.getElem?_cons_succ, List.set_cons_zero, List.set_cons_succ, Bool.false_and, Bool.true_and, Bool.and_true, Bool.and_false, Bool.or_false, Bool.false_or, Bool.or_true, Bool.true_or, Bool.not_true, Bool.not_false, decide_true, decide_false, if_true, if_false, ite_true, ite_false, reduceCtorEq, reduceIte, Nat.reduceAdd, Nat.reduceSub, Nat.reduceMul, Nat.reduceEqDiff, Int.reduceEq, Int.reduceLT, Int.reduceLE, Int.reduceNe, Int.reduceNeg, Int.reduceAdd, Int.reduceMul, Int.reduceSub, Nat.reduceLT, Nat.reduceLeDiff, Int.reduceGT, Int.reduceGE, is_tup_tuple, is_tup_list, is_tup_int, is_tup_bool, is_tup_str, is_lst_tuple, is_lst_list, is_lst_int, is_lst_bool, is_lst_str, is_int_tuple, is_int_list, is_int_int, is_int_bool, is_int_str, is_bl_tuple, is_bl_list, is_bl_int, is_bl_bool, is_bl_str, is_str_tuple, is_str_list, is_str_int, is_str_bool, is_str_str, is_non_tuple, is_non_list, is_non_int, is_non_bool, is_non_str, forS_ok, forB_nx, forB_ret, forL_nil, lc_nil, Int.cast_ofNat_Int, lc_cons, vlE_d, lenOk0, lenOk1, lenOk2, lenOk3, wipe1, wipe2, R.noexc_ok, decide_eq_true_eq, eq_self, ix_nv0, ix_nv1, is_nv_tuple, is_cv_tuple, is_lv_list, is_lv_tuple, is_cv_list, isLst_nv, isLst_cv, isLst_lv, isNon_nv, isNon_cv, isNon_lv, bind_nv, items_cv, items_lv, len_cv, len_lv, list_cv, list_lv, tuple_cv, tuple_lv, c_eqN, c_neN, c_eqC, c_neC, c_eqL, c_neL, nv01, nv11, cv_nil, cv_one, rev_lv, rev_cv, lv_one, lv_map, cv_map, lenOk_map, List.length_map, ownS_lv, back_bl, back_int, back_nv, back_cv, back_lv, c_eqB, c_neB, *])
def fd_without_noughts : FD := ⟨1, 2, [.set 1 (.blt .len [(.bor 0)]), .whl (.and (.cmp .gt (.bor 1) (.cst (.int 0))) (.cmp .eq (.ix (.ix (.bor 0) (.bin .sub (.bor 1) (.cst (.int 1)))) (.cst (.int 0))) (.cst (.int 0)))) [.set 1 (.bin .sub (.bor 1) (.cst (.int 1)))], .ret (.blt .tuple [(.slc (.bor 0) none (some (.bor 1)))])]⟩
def fd_curve_of : FD := ⟨1, 2, [.set 1 (.call 8 [(.nm 0)]), .ifs (.cmp .gt (.blt .len [(.bor 1)]) (.cst (.int 13))) [.rse 3] [], .ret (.nm 1)]⟩
def fd_worth : FD := ⟨2, 4, [.set 2 (.cst (.tup [(.int 0), (.int 1)])), .for (.one 3) (.rvd (.nm 0)) [.set 2 (.call 4 [(.call 6 [(.nm 2), (.nm 1)]), (.nm 3)])], .ret (.nm 2)]⟩
def worthB : List S := [.set 2 (.call 4 [(.call 6 [(.nm 2), (.nm 1)]), (.nm 3)])]
section
variable {FT : Nat → Option FD}
/-- every number's size -/
def BL (n : Nat) (l : List Rat) : Prop := ∀ q ∈ l, Bd n q
theorem BL.mono {m n : Nat} {l : List Rat} (h : BL m l) (e : m ≤ n) : BL n l := fun q hq => (h q hq).mono e
theorem BL.trim {n : Nat} {l : List Rat} (h : BL n l) : BL n (trim l) := fun q hq => h q (trim_mem hq)
theorem BL.nil {n : Nat} : BL n [] := fun _ h => by cases h
theorem BL.cons {n : Nat} {a : Rat} {l : List Rat} (ha : Bd n a) (h : BL n l) : BL n (a :: l) := fun q hq => by
  rcases List.mem_cons.mp hq with rfl | hq
  · exact ha
  · exact h q hq
theorem BL.app {n : Nat} {l m : List Rat} (h : BL n l) (h2 : BL n m) : BL n (l ++ m) := fun q hq => (List.mem_append.mp hq).elim (h q) (h2 q)
theorem trim_take {l : List Rat} {m : Nat} (hm : m ≤ l.length) : trim (l.take m) = if h : 0 < m then (if l.getD (m - 1) 0 = 0 then trim (l.take (m - 1)) else l.take m) else [] := by
  split
  · rename_i h
    have hlt : m - 1 < l.length := by omega
    have e : l.take m = l.take (m - 1) ++ [l.getD (m - 1) 0] := by
      have e1 : m = (m - 1) + 1 := by omega
      conv => lhs; rw [e1]
      rw [List.take_succ_eq_append_getElem hlt, List.getD_eq_getElem?_getD, List.getElem?_eq_getElem hlt]; rfl
    rw [e, trim_snoc]
  · have : m = 0 := by omega
    subst this; rfl
theorem wn_loop {cl : Nat → List Val → R (Val × Bool)} {L : Val} {l : List Rat} (hix : ∀ (i : Int) (k : Nat) q, i = k → l[k]? = some q → evIx L (.int i) = .ok (nv q)) : ∀ m : Nat, m ≤ l.length →
    ∃ m' : Nat, m' ≤ m ∧ l.take m' = trim (l.take m) ∧ whlO cl (.and (.cmp .gt (.bor 1) (.cst (.int 0))) (.cmp .eq (.ix (.ix (.bor 0) (.bin .sub (.bor 1) (.cst (.int 1)))) (.cst (.int 0))) (.cst (.int 0)))) [.set 1 (.bin .sub (.bor 1) (.cst (.int 1)))] [some (L, false), some (.int m, false)] = .nx [some (L, false), some (.int m', false)]
  | 0, _ => ⟨0, Nat.le_refl _, rfl, whlO_f (by walk_at "ev")⟩
  | m + 1, hm => by
    have hlt : m < l.length := hm
    have hg : l[m]? = some (l.getD m 0) := by rw [List.getD_eq_getElem?_getD, List.getElem?_eq_getElem hlt]; rfl
    have e := hix (((m + 1 : Nat) : Int) - 1) m _ (by omega) hg
    have h0 : (0 : Int) < ((m + 1 : Nat) : Int) := by omega
    have ht := trim_take hm
    rw [dif_pos (Nat.succ_pos m), Nat.add_sub_cancel] at ht
    by_cases hz : (l.getD m 0).num = 0
    · rw [if_pos (num_zero.mp hz)] at ht
      obtain ⟨m', h1, h2, h3⟩ := wn_loop (cl := cl) hix m (Nat.le_of_succ_le hm)
      refine ⟨m', Nat.le_succ_of_le h1, h2.trans ht.symm, ?_⟩
      have hd : decide ((l.getD m 0).num = 0) = true := decide_eq_true hz
      have e2 : (((m + 1 : Nat) : Int) - 1) = m := by omega
      rw [e2] at e
      rw [← h3]
      clear h3 ht hix
      exact whlO_t (by walk_at "evh") (by walk_at "evh")
    · rw [if_neg fun z => hz (num_zero.mpr z)] at ht
      refine ⟨m + 1, Nat.le_refl _, ht.symm, ?_⟩
      clear ht hix hg
      exact whlO_f (by walk_at "evh")
theorem cut_take {α : Type} {xs : List α} {m : Nat} (h : m ≤ xs.length) : cut xs none (some (m : Int)) = xs.take m := by
  unfold cut
  have e1 : HT.sIx xs.length 0 none = 0 := rfl
  have e2 : HT.sIx xs.length xs.length (some (m : Int)) = m := by
    rw [HT.sIx_nat]; exact Nat.min_eq_left h
  rw [e1, e2]; simp
theorem take_nv {l : List Rat} {m : Nat} : (l.map nv).take m = (l.take m).map nv := by rw [List.map_take]
theorem callF_wn (h8 : FT 8 = some fd_without_noughts) {n : Nat} {L : Val} {l : List Rat} (hL : L = cv l ∨ L = lv l) : callF FT (n + 1) 8 [L] = .ok (cv (trim l), false) := by
  rw [callF_s h8 rfl]
  have hix : ∀ (i : Int) (k : Nat) q, i = k → l[k]? = some q → evIx L (.int i) = .ok (nv q) := fun i k q hi hk => by
    rcases hL with rfl | rfl
    · exact ix_cvN hi hk
    · exact ix_lvN hi hk
  have hlen : evBf .len [L] = .ok (.int l.length) := by
    rcases hL with rfl | rfl
    · exact len_cv
    · exact len_lv
  obtain ⟨m', h1, h2, h3⟩ := wn_loop (cl := callF FT n) hix l.length (Nat.le_refl _)
  rw [List.take_length] at h2
  have hs : ∃ S, evSlc none (some (m' : Int)) L = .ok S ∧ isLst S = isLst L ∧ evBf .tuple [S] = .ok (cv (trim l)) := by
    have hc : cut (l.map nv) none (some (m' : Int)) = (trim l).map nv := by
      rw [cut_take (by rw [List.length_map]; exact h1), take_nv, h2]
    rcases hL with rfl | rfl
    · exact ⟨cv (trim l), by show R.ok (Val.tup (cut (l.map nv) none (some (m' : Int)))) = _; rw [hc]; rfl, rfl, rfl⟩
    · exact ⟨lv (trim l), by show R.ok (Val.lst (cut (l.map nv) none (some (m' : Int)))) = _; rw [hc]; rfl, rfl, rfl⟩
  obtain ⟨S, s1, s2, s3⟩ := hs
  unfold fd_without_noughts
  clear hL hix h1 h2 s2
  walk_at "evh"
theorem callF_curve_of (h8 : FT 8 = some fd_without_noughts) (h9 : FT 9 = some fd_curve_of) {n : Nat} {L : Val} {l : List Rat} (hL : L = cv l ∨ L = lv l) (hl : (trim l).length ≤ 13) : callF FT (n + 2) 9 [L] = .ok (cv (trim l), false) := by
  rw [callF_s h9 rfl]
  have e := callF_wn h8 (n := n) hL
  have h13 : ¬ (13 : Int) < (trim l).length := by omega
  unfold fd_curve_of
  clear hL hl
  walk_at "evh"
theorem callF_curve_ofX (h8 : FT 8 = some fd_without_noughts) (h9 : FT 9 = some fd_curve_of) {n : Nat} {L : Val} {l : List Rat} (hL : L = cv l ∨ L = lv l) (hl : 13 < (trim l).length) : callF FT (n + 2) 9 [L] = .exc 3 := by
  rw [callF_s h9 rfl]
  have e := callF_wn h8 (n := n) hL
  have h13 : (13 : Int) < (trim l).length := by omega
  unfold fd_curve_of
  clear hL hl
  walk_at "evh"
/-- the worth, with sizes -/
theorem worth_loop (h0 : FT 0 = some fd_divisor_of) (h1 : FT 1 = some fd_number) (h4 : FT 4 = some fd_plus) (h6 : FT 6 = some fd_times) {n : Nat} {L : Val} {x : Rat} {i k : Nat} (bx : Bd i x) : ∀ (l : List Rat) (s : Rat) (j : Nat) (z : Option (Val × Bool)), BL k l → Bd j s → j + l.length * (i + k + 1) < 130000000 →
    ∃ z', forL (.one 3) (fun env' => evSs (callF FT (n + 3)) [.set 2 (.call 4 [(.call 6 [(.nm 2), (.nm 1)]), (.nm 3)])] env') (l.map nv) [some (L, false), some (nv x, false), some (nv s, false), z] = .nx [some (L, false), some (nv x, false), some (nv (l.foldl (fun s a => s * x + a) s), false), z'] ∧ Bd (j + l.length * (i + k + 1)) (l.foldl (fun s a => s * x + a) s)
  | [], s, j, z, _, hs, _ => ⟨z, rfl, by simpa using hs⟩
  | a :: l, s, j, z, hl, hs, hb => by
    have ba := hl a List.mem_cons_self
    have e1 : (l.length + 1) * (i + k + 1) = l.length * (i + k + 1) + (i + k + 1) := by rw [Nat.succ_mul]
    have hb : j + (l.length + 1) * (i + k + 1) < 130000000 := hb
    rw [e1] at hb
    have bt := hs.mul bx
    have bp := bt.add ba
    have c1 := callF_times h0 h1 h6 (n := n) hs bx (by omega)
    have c2 := callF_plus h0 h1 h4 (n := n) bt ba (by omega)
    obtain ⟨z', h2, h3⟩ := worth_loop h0 h1 h4 h6 (n := n) (L := L) bx l (s * x + a) (j + i + k + 1) (some (nv a, false)) (fun q hq => hl q (List.mem_cons_of_mem _ hq)) bp (by omega)
    refine ⟨z', ?_, h3.mono (by show _ ≤ j + (l.length + 1) * (i + k + 1); rw [e1]; omega)⟩
    rw [List.foldl_cons, ← h2, List.map_cons]
    refine forL_cons (env1 := [some (L, false), some (nv x, false), some (nv s, false), some (nv a, false)]) rfl ?_
    clear h2 h3 hb e1 bt bp ba hs hl bx
    walk_at "evh"
theorem horner {x : Rat} : ∀ (l : List Rat) , l.reverse.foldl (fun s a => s * x + a) 0 = ev l x
  | [] => rfl
  | a :: l => by
    rw [List.reverse_cons, List.foldl_append, horner l]
    show ev l x * x + a = a + x * ev l x
    grind
theorem callF_worth (h0 : FT 0 = some fd_divisor_of) (h1 : FT 1 = some fd_number) (h4 : FT 4 = some fd_plus) (h6 : FT 6 = some fd_times) (h10 : FT 10 = some fd_worth) {n i k : Nat} {l : List Rat} {x : Rat} (bl : BL k l) (bx : Bd i x) (hb : 1 + l.length * (i + k + 1) < 130000000) :
    callF FT (n + 4) 10 [cv l, nv x] = .ok (nv (ev l x), false) ∧ Bd (1 + l.length * (i + k + 1)) (ev l x) := by
  rw [callF_s h10 rfl]
  obtain ⟨z', e, b⟩ := worth_loop h0 h1 h4 h6 (n := n) (L := cv l) bx l.reverse 0 1 none (fun q hq => bl q (List.mem_reverse.mp hq)) ⟨by decide, by decide⟩ (by rw [List.length_reverse]; exact hb)
  rw [horner, List.length_reverse] at b
  rw [horner] at e
  refine ⟨?_, b⟩
  have er : (l.map nv).reverse = l.reverse.map nv := by rw [List.map_reverse]
  have eb : fd_worth.body = [.set 2 (.cst (.tup [(.int 0), (.int 1)])), .for (.one 3) (.rvd (.nm 0)) worthB, .ret (.nm 2)] := rfl
  rw [eb]
  have e : forL (.one 3) (fun env' => evSs (callF FT (n + 3)) worthB env') (l.reverse.map nv) [some (cv l, false), some (nv x, false), some (nv 0, false), none] = _ := e
  clear eb b hb bl bx
  rw [show fd_worth.nl = 4 from rfl]
  walk_at "evh"
end
end G

set_option linter.all false
set_option maxHeartbeats 1000000
set_option maxRecDepth 10000
/-! F6: curves reckoned with. -/
namespace G
open PySem
local macro_rules | `(tactic| walk_at "ev") => `(tactic| simp only [vl_nm, vl_bor, vl_cst, vl_bin, vl_neg, vl_cmp, vl_isn, vl_chn, vl_inn, vl_and, vl_or, vl_not, vl_ifx, vl_ix, vl_slc, vl_rev, vl_tup, vl_lst, vl_call, vl_blt, vl_isi, vl_lc, ev_nm, ev_cst, ev_bin, ev_neg, ev_cmp, ev_isn, ev_chn, ev_inn, ev_and, ev_or, ev_not, ev_ifx, ev_ix, ev_slc, ev_rev, ev_tup, ev_lst, ev_call, ev_blt, ev_isi, ev_lc, evEs_nil, evEs_cons, evAs_nil, evAs_cons, evO_none, evO_some, evC_none, evC_some, evIt_val, evIt_rng1, evIt_rng2, evIt_rvd, evT_vl, andR_t, andR_f, orR_f, orR_t, ifxR_t, ifxR_f, chnR_t, chnR_f, ss_nil', ss_cons', thn_nx, thn_ret, thn_exc, thn_bad, s_set', set_ok, set_exc, s_unp', unp_ok, s_ifs', if_t, if_f, s_for', for_ok, s_whl', s_ret', s_retn', s_pass', s_rse', s_exp', s_try', try_nx, try_ret, try_exc, s_par', s_par3', s_six', s_app', s_pop', s_popu', s_rev', rO_ok, rO_exc, ret_nm, ret_bor, ret_cst, ret_bin, ret_neg, ret_cmp, ret_isn, ret_chn, ret_inn, ret_and, ret_or, ret_not, ret_ifx, ret_ix, ret_slc, ret_rev, ret_tup, ret_lst, ret_call, ret_blt, ret_isi, ret_lc, fin_nx, fin_ret, fin_exc, b_add, b_sub, b_mul, b_fdiv, b_mod, p11, p12, p30, p42, p57, p59, b_addL, b_addT, b_mulL, c_lt, c_le, c_gt, c_ge, truth_bl, toI_int, toB_bl, items_lst, items_tup, len_lst, len_tup, len_scr, abs_int, int_int, int_bl, list_lst, list_tup, list_scr, tuple_lst, tuple_tup, max_int, min_int, ix_p0, ix_p1, c_eqI, c_neI, startE, frzE, frzI, frzAll, frz, kept, keptL, keptO, keptI, put, look, lookF, ownL_s, ownS_lst, evCall, lent, borI, bind_one, bind_tup, putAll, isLst_int, isLst_bl, isLst_str, isLst_tup, isLst_non, isLst_scr, isLst_exc, isLst_lst, isNon_int, isNon_bl, isNon_str, isNon_tup, isNon_non, isNon_scr, isNon_exc, isNon_lst, R.bind_ok, R.bind_exc, R.map_ok, R.map_exc, List.map_cons, List.map_nil, List.length_cons, List.length_nil, List.replicate, List.cons_append, List.nil_append, List.append_nil, List.getElem?_cons_zero, List.getElem?_cons_succ, List.set_cons_zero, List.set_cons_succ, Bool.false_and, Bool.true_and, Bool.and_true, Bool.and_false, Bool.or_false, Bool.false_or, Bool.or_true, Bool.true_or, Bool.not_true, Bool.not_false, decide_true, decide_false, if_true, if_false, ite_true, ite_false, reduceCtorEq, reduceIte, Nat.reduceAdd, Nat.reduceSub, Nat.reduceMul, Nat.reduceEqDiff, Int.reduceEq, Int.reduceLT, Int.reduceLE, Int.reduceNe, Int.reduceNeg, Int.reduceAdd, Int.reduceMul, Int.reduceSub, Nat.reduceLT, Nat.reduceLeDiff, Int.reduceGT, Int.reduceGE, is_tup_tuple, is_tup_list, is_tup_int, is_tup_bool, is_tup_str, is_lst_tuple, is_lst_list, is_lst_int, is_lst_bool, is_lst_str, is_int_tuple, is_int_list, is_int_int, is_int_bool, is_int_str, is_bl_tuple, is_bl_list, is_bl_int, is_bl_bool, is_bl_str, is_str_tuple, is_str_list, is_str_int, is_str_bool, is_str_str, is_non_tuple, is_non_list, is_non_int, is_non_bool, is_non_str, forS_ok, forB_nx, forB_ret, forL_nil, lc_nil, Int.cast_ofNat_Int, lc_cons, vlE_d, lenOk0, lenOk1, lenOk2, lenOk3, wipe1, wipe2, R.noexc_ok, decide_eq_true_eq, eq_self, ix_nv0, ix_nv1, is_nv_tuple, is_cv_tuple, is_lv_list, is_lv_tuple, is_cv_list, isLst_nv, isLst_cv, isLst_lv, isNon_nv, isNon_cv, isNon_lv, bind_nv, items_cv, items_lv, len_cv, len_lv, list_cv, list_lv, tuple_cv, tuple_lv, c_eqN, c_neN, c_eqC, c_neC, c_eqL, c_neL, nv01, nv11, cv_nil, cv_one, rev_lv, rev_cv, lv_one, lv_map, cv_map, lenOk_map, List.length_map, ownS_lv, back_bl, back_int, back_nv, back_cv, back_lv, c_eqB, c_neB])
local macro_rules | `(tactic| walk_at "evh") => `(tactic| simp only [vl_nm, vl_bor, vl_cst, vl_bin, vl_neg, vl_cmp, vl_isn, vl_chn, vl_inn, vl_and, vl_or, vl_not, vl_ifx, vl_ix, vl_slc, vl_rev, vl_tup, vl_lst, vl_call, vl_blt, vl_isi, vl_lc, ev_nm, ev_cst, ev_bin, ev_neg, ev_cmp, ev_isn, ev_chn, ev_inn, ev_and, ev_or, ev_not, ev_ifx, ev_ix, ev_slc, ev_rev, ev_tup, ev_lst, ev_call, ev_blt, ev_isi, ev_lc, evEs_nil, evEs_cons, evAs_nil, evAs_cons, evO_none, evO_some, evC_none, evC_some, evIt_val, evIt_rng1, evIt_rng2, evIt_rvd, evT_vl, andR_t, andR_f, orR_f, orR_t, ifxR_t, ifxR_f, chnR_t, chnR_f, ss_nil', ss_cons', thn_nx, thn_ret, thn_exc, thn_bad, s_set', set_ok, set_exc, s_unp', unp_ok, s_ifs', if_t, if_f, s_for', for_ok, s_whl', s_ret', s_retn', s_pass', s_rse', s_exp', s_try', try_nx, try_ret, try_exc, s_par', s_par3', s_six', s_app', s_pop', s_popu', s_rev', rO_ok, rO_exc, ret_nm, ret_bor, ret_cst, ret_bin, ret_neg, ret_cmp, ret_isn, ret_chn, ret_inn, ret_and, ret_or, ret_not, ret_ifx, ret_ix, ret_slc, ret_rev, ret_tup, ret_lst, ret_call, ret_blt, ret_isi, ret_lc, fin_nx, fin_ret, fin_exc, b_add, b_sub, b_mul, b_fdiv, b_mod, p11, p12, p30, p42, p57, p59, b_addL, b_addT, b_mulL, c_lt, c_le, c_gt, c_ge, truth_bl, toI_int, toB_bl, items_lst, items_tup, len_lst, len_tup, len_scr, abs_int, int_int, int_bl, list_lst, list_tup, list_scr, tuple_lst, tuple_tup, max_int, min_int, ix_p0, ix_p1, c_eqI, c_neI, startE, frzE, frzI, frzAll, frz, kept, keptL, keptO, keptI, put, look, lookF, ownL_s, ownS_lst, evCall, lent, borI, bind_one, bind_tup, putAll, isLst_int, isLst_bl, isLst_str, isLst_tup, isLst_non, isLst_scr, isLst_exc, isLst_lst, isNon_int, isNon_bl, isNon_str, isNon_tup, isNon_non, isNon_scr, isNon_exc, isNon_lst, R.bind_ok, R.bind_exc, R.map_ok, R.map_exc, List.map_cons, List.map_nil, List.length_cons, List.length_nil, List.replicate, List.cons_append, List.nil_append, List.append_nil, List.getElem?_cons_zero, List.getElem?_cons_succ, List.set_cons_zero, List.set_cons_succ, Bool.false_and, Bool.true_and, Bool.and_true, Bool.and_false, Bool.or_false, Bool.false_or, Bool.or_true, Bool.true_or, Bool.not_true, Bool.not_false, decide_true, decide_false, if_true, if_false, ite_true, ite_false, reduceCtorEq, reduceIte, Nat.reduceAdd, Nat.reduceSub, Nat.reduceMul, Nat.reduceEqDiff, Int.reduceEq, Int.reduceLT, Int.reduceLE, Int.reduceNe, Int.reduceNeg, Int.reduceAdd, Int.reduceMul, Int.reduceSub, Nat.reduceLT, Nat.reduceLeDiff, Int.reduceGT, Int.reduceGE, is_tup_tuple, is_tup_list, is_tup_int, is_tup_bool, is_tup_str, is_lst_tuple, is_lst_list, is_lst_int, is_lst_bool, is_lst_str, is_int_tuple, is_int_list, is_int_int, is_int_bool, is_int_str, is_bl_tuple, is_bl_list, is_bl_int, is_bl_bool, is_bl_str, is_str_tuple, is_str_list, is_str_int, is_str_bool, is_str_str, is_non_tuple, is_non_list, is_non_int, is_non_bool, is_non_str, forS_ok, forB_nx, forB_ret, forL_nil, lc_nil, Int.cast_ofNat_Int, lc_cons, vlE_d, lenOk0, lenOk1, lenOk2, lenOk3, wipe1, wipe2, R.noexc_ok, decide_eq_true_eq, eq_self, ix_nv0, ix_nv1, is_nv_tuple, is_cv_tuple, is_lv_list, is_lv_tuple, is_cv_list, isLst_nv, isLst_cv, isLst_lv, isNon_nv, isNon_cv, isNon_lv, bind_nv, items_cv, items_lv, len_cv, len_lv, list_cv, list_lv, tuple_cv, tuple_lv, c_eqN, c_neN, c_eqC, c_neC, c_eqL, c_neL, nv01, nv11, cv_nil, cv_one, rev_lv, rev_cv, lv_one, lv_map, cv_map, lenOk_map, List.length_map, ownS_lv, back_bl, back_int, back_nv, back_cv, back_lv, c_eqB, c_neB, *])
def fd_at_power : FD := ⟨2, 2, [.ifs (.cmp .lt (.bor 1) (.blt .len [(.bor 0)])) [.ret (.ix (.bor 0) (.bor 1))] [], .ret (.cst (.tup [(.int 0), (.int 1)]))]⟩
def fd_scaled : FD := ⟨2, 3, [.ret (.call 8 [(.lc (.one 2) (.val (.bor 0)) none (.call 6 [(.nm 2), (.nm 1)]))])]⟩
def fd_added : FD := ⟨2, 4, [.set 2 (.blt .max2 [(.blt .len [(.bor 0)]), (.blt .len [(.bor 1)])]), .ret (.call 8 [(.lc (.one 3) (.rng1 (.bor 2)) none (.call 4 [(.call 11 [(.nm 0), (.nm 3)]), (.call 11 [(.nm 1), (.nm 3)])]))])]⟩
def fd_taken : FD := ⟨2, 2, [.ret (.call 13 [(.nm 0), (.call 12 [(.nm 1), (.tup [(.neg (.cst (.int 1))), (.cst (.int 1))])])])]⟩
def fd_product : FD := ⟨2, 5, [.set 2 (.bin .mul (.lst [(.cst (.tup [(.int 0), (.int 1)]))]) (.blt .max2 [(.cst (.int 0)), (.bin .sub (.bin .add (.blt .len [(.bor 0)]) (.blt .len [(.bor 1)])) (.cst (.int 1)))])), .for (.one 3) (.rng1 (.blt .len [(.bor 0)])) [.for (.one 4) (.rng1 (.blt .len [(.bor 1)])) [.six 2 (.bin .add (.bor 3) (.bor 4)) (.call 4 [(.ix (.bor 2) (.bin .add (.bor 3) (.bor 4))), (.call 6 [(.ix (.bor 0) (.bor 3)), (.ix (.bor 1) (.bor 4))])])]], .ret (.call 8 [(.nm 2)])]⟩
def fd_multiplied : FD := ⟨2, 2, [.ret (.call 9 [(.call 15 [(.nm 0), (.nm 1)])])]⟩
def fd_slope : FD := ⟨1, 2, [.ret (.blt .tuple [(.lc (.one 1) (.rng2 (.cst (.int 1)) (.blt .len [(.bor 0)])) none (.call 6 [(.ix (.bor 0) (.bor 1)), (.tup [(.nm 1), (.cst (.int 1))])]))])]⟩
def inB : List S := [.six 2 (.bin .add (.bor 3) (.bor 4)) (.call 4 [(.ix (.bor 2) (.bin .add (.bor 3) (.bor 4))), (.call 6 [(.ix (.bor 0) (.bor 3)), (.ix (.bor 1) (.bor 4))])])]
def outB : List S := [.for (.one 4) (.rng1 (.blt .len [(.bor 1)])) inB]
section
variable {FT : Nat → Option FD}
theorem Bd0 {n : Nat} : Bd (n + 1) 0 := Bd.mono (m := 1) ⟨by decide, by decide⟩ (by omega)
theorem BL.co {n : Nat} {l : List Rat} (h : BL (n + 1) l) (k : Nat) : Bd (n + 1) (co l k) := by
  by_cases hk : k < l.length
  · exact h _ (List.mem_iff_getElem?.mpr ⟨k, co_get hk⟩)
  · rw [co_out (by omega)]; exact Bd0
theorem callF_at (h11 : FT 11 = some fd_at_power) {n : Nat} {l : List Rat} {k : Nat} : callF FT (n + 1) 11 [cv l, .int k] = .ok (nv (co l k), false) := by
  rw [callF_s h11 rfl]
  unfold fd_at_power
  by_cases h : k < l.length
  · have h1 : (k : Int) < l.length := by omega
    have h2 := ix_cvN (l := l) (i := k) rfl (co_get h)
    walk_at "evh"
  · have h1 : ¬ (k : Int) < l.length := by omega
    rw [co_out (by omega)]
    walk_at "evh"
/-- a comprehension over a curve's numbers -/
theorem lcR_map {cl : Nat → List Val → R (Val × Bool)} {i : Nat} {env : Env} {el : E} {f : Rat → Rat} {l : List Rat} (hm : l.length ≤ 1000000) (h : ∀ q ∈ l, (evE cl el ((env.set i none).set i (some (nv q, false)))).map (·.1) = .ok (nv (f q))) :
    lcR cl (.ok (l.map nv)) (.one i) none el env = .ok (lv (l.map f)) := by
  rw [lcR_ok, List.length_map, if_pos (lenOk_lit hm)]
  have e : lcLoop (.one i) (wipeE env (tgs (.one i))) (fun env' => (evC cl none env').noexc) (fun env' => (vlE cl el env').noexc) (l.map nv) = .ok ((l.map f).map nv) := by
    induction l with
    | nil => rfl
    | cons a l ih =>
      rw [List.map_cons, lc_cons, ih (by simp at hm; omega) fun q hq => h q (List.mem_cons_of_mem _ hq)]
      have h1 := h a List.mem_cons_self
      have e1 : vlE cl el (put (wipeE env (tgs (.one i))) i (nv a) false) = .ok (nv (f a)) := h1
      simp only [bind_one, R.bind_ok, evC_none, R.noexc_ok, if_true, e1, List.map_cons]
  rw [e]; rfl
theorem lcR_rng {cl : Nat → List Val → R (Val × Bool)} {i : Nat} {env : Env} {el : E} {f : Nat → Rat} {m : Nat} {lo : Int} (hm : m ≤ 1000000) (h : ∀ k, k < m → (evE cl el ((env.set i none).set i (some (.int (lo + (k : Nat)), false)))).map (·.1) = .ok (nv (f k))) :
    lcR cl (.ok (rngV lo m)) (.one i) none el env = .ok (lv ((List.range m).map f)) := by
  have hl : (rngV lo m).length = m := by unfold rngV; simp
  rw [lcR_ok, hl, if_pos (lenOk_lit hm), lc_rng f m lo fun k hk => ⟨_, rfl, by rw [evC_none]; rfl, by
    have e1 : vlE cl el (put (wipeE env (tgs (.one i))) i (.int (lo + k)) false) = .ok (nv (f k)) := h k hk
    rw [e1]; rfl⟩]
  rfl
theorem BL.scl {i j : Nat} {l : List Rat} {c : Rat} (bl : BL i l) (bc : Bd j c) : BL (i + j) (sclP l c) := fun q hq => by
  obtain ⟨a, ha, rfl⟩ := List.mem_map.mp (trim_mem hq)
  exact (bl a ha).mul bc
theorem BL.addP {i j : Nat} {l m : List Rat} (bl : BL (i + 1) l) (bm : BL (j + 1) m) : BL (i + j + 3) (addP l m) := fun q hq => by
  have := trim_mem hq
  rw [addR_map] at this
  obtain ⟨k, _, rfl⟩ := List.mem_map.mp this
  exact ((bl.co k).add (bm.co k)).mono (by omega)
theorem BL.takP {i j : Nat} {l m : List Rat} (bl : BL (i + 1) l) (bm : BL (j + 1) m) : BL (i + j + 4) (takP l m) := (BL.addP (j := j + 1) bl (bm.scl (j := 1) ⟨by decide, by decide⟩)).mono (by omega)
section
variable (h0 : FT 0 = some fd_divisor_of) (h1 : FT 1 = some fd_number)
include h0 h1
theorem callF_scaled (h6 : FT 6 = some fd_times) (h8 : FT 8 = some fd_without_noughts) (h12 : FT 12 = some fd_scaled) {n i j : Nat} {l : List Rat} {c : Rat} (bl : BL i l) (bc : Bd j c) (hl : l.length ≤ 1000) (hb : i + j < 130000000) :
    callF FT (n + 4) 12 [cv l, nv c] = .ok (cv (sclP l c), false) := by
  rw [callF_s h12 rfl]
  have e : lcR (callF FT (n + 3)) (.ok (l.map nv)) (.one 2) none (.call 6 [(.nm 2), (.nm 1)]) [some (cv l, false), some (nv c, false), none] = .ok (lv (l.map fun a => a * c)) := lcR_map (by omega) fun q hq => by
    have e := callF_times h0 h1 h6 (n := n) (bl q hq) bc (by omega)
    clear bl bc
    walk_at "evh"
  have e2 := callF_wn h8 (n := n + 2) (L := lv (l.map fun a => a * c)) (.inr rfl)
  have e3 : trim (l.map fun a => a * c) = sclP l c := rfl
  unfold fd_scaled
  clear bl bc
  walk_at "evh"
theorem callF_added (h4 : FT 4 = some fd_plus) (h8 : FT 8 = some fd_without_noughts) (h11 : FT 11 = some fd_at_power) (h13 : FT 13 = some fd_added) {n i j : Nat} {l m : List Rat} (bl : BL (i + 1) l) (bm : BL (j + 1) m) (hl : l.length ≤ 1000) (hm : m.length ≤ 1000) (hb : i + j < 130000000) :
    callF FT (n + 4) 13 [cv l, cv m] = .ok (cv (addP l m), false) := by
  rw [callF_s h13 rfl]
  have hx : (if (m.length : Int) > l.length then (m.length : Int) else l.length) = (max l.length m.length : Nat) := by split <;> omega
  have r : rngOk ((max l.length m.length : Nat) : Int) = true := rng_ok (by omega)
  have e : lcR (callF FT (n + 3)) (.ok (rngV 0 (max l.length m.length))) (.one 3) none (.call 4 [(.call 11 [(.nm 0), (.nm 3)]), (.call 11 [(.nm 1), (.nm 3)])]) [some (cv l, false), some (cv m, false), some (.int (max l.length m.length : Nat), false), none] = .ok (lv (addR l m)) := by
    rw [addR_map]
    refine lcR_rng (by omega) fun k hk => ?_
    have e := callF_plus h0 h1 h4 (n := n) (bl.co k) (bm.co k) (by omega)
    have e1 := callF_at h11 (n := n + 2) (l := l) (k := k)
    have e2 := callF_at h11 (n := n + 2) (l := m) (k := k)
    have ez : (0 : Int) + (k : Int) = k := by omega
    clear bl bm hx
    walk_at "evh"
  have e2 := callF_wn h8 (n := n + 2) (L := lv (addR l m)) (.inr rfl)
  have e3 : trim (addR l m) = addP l m := rfl
  have e4 : ((max l.length m.length : Nat) : Int).toNat = max l.length m.length := Int.toNat_natCast _
  unfold fd_added
  clear bl bm
  walk_at "evh"
theorem callF_taken (h4 : FT 4 = some fd_plus) (h6 : FT 6 = some fd_times) (h8 : FT 8 = some fd_without_noughts) (h11 : FT 11 = some fd_at_power) (h12 : FT 12 = some fd_scaled) (h13 : FT 13 = some fd_added) (h14 : FT 14 = some fd_taken) {n i j : Nat} {l m : List Rat} (bl : BL (i + 1) l) (bm : BL (j + 1) m) (hl : l.length ≤ 1000) (hm : m.length ≤ 1000) (hb : i + j < 120000000) :
    callF FT (n + 5) 14 [cv l, cv m] = .ok (cv (takP l m), false) := by
  rw [callF_s h14 rfl]
  have b1 : Bd 1 (-1 : Rat) := ⟨by decide, by decide⟩
  have e1 := callF_scaled h0 h1 h6 h8 h12 (n := n) bm b1 hm (by omega)
  have e2 := callF_added h0 h1 h4 h8 h11 h13 (n := n) bl (BL.scl bm b1) hl (by have := trim_len (sclR (-1) m); unfold sclP; simp [sclR] at this ⊢; omega) (by omega)
  have e3 : Val.tup [.int (-1), .int 1] = nv (-1) := rfl
  have e4 : addP l (sclP m (-1)) = takP l m := rfl
  unfold fd_taken
  clear bl bm b1
  walk_at "evh"
/-- the count of what has come to the place i: rows ahead of j, and k of row j; M in a row -/
def nb (M j k i : Nat) : Nat := if i < j then M else if i < j + k then M - (i - j) else M - (i - j) - 1
omit h0 h1 in
theorem nb_le {M j k i : Nat} : nb M j k i ≤ M := by unfold nb; split <;> (try split) <;> omega
theorem in_loop (h4 : FT 4 = some fd_plus) (h6 : FT 6 = some fd_times) {n a b : Nat} {l m : List Rat} (bl : BL (a + 1) l) (bm : BL (b + 1) m) {j : Nat} (hj : j < l.length) (hc : 1 + m.length * (a + b + 3) < 120000000) : ∀ (d k : Nat) (F : List Rat) (z : Option (Val × Bool)), k + d = m.length → F.length = l.length + m.length - 1 → (∀ i < F.length, Bd (1 + nb m.length j k i * (a + b + 3)) (co F i)) →
    ∃ F' z', forL (.one 4) (fun env' => evSs (callF FT (n + 3)) inB env') (rngV k d) [some (cv l, false), some (cv m, false), some (lv F, true), some (.int j, false), z] = .nx [some (cv l, false), some (cv m, false), some (lv F', true), some (.int j, false), z'] ∧ F'.length = F.length ∧ (∀ i < F.length, Bd (1 + nb m.length j m.length i * (a + b + 3)) (co F' i)) ∧ ∀ x, ev F' x = ev F x + co l j * x ^ (j + k) * ev (m.drop k) x
  | 0, k, F, z, hk, hF, hb => by
    have : k = m.length := by omega
    subst this
    refine ⟨F, z, rfl, rfl, hb, fun x => ?_⟩
    rw [List.drop_length]; show ev F x = ev F x + _ * (0 : Rat); grind
  | d + 1, k, F, z, hk, hF, hb => by
    have hkm : k < m.length := by omega
    have hi : j + k < F.length := by omega
    have bF := hb (j + k) hi
    have hnb : nb m.length j k (j + k) = m.length - k - 1 := by unfold nb; rw [if_neg (by omega), if_neg (by omega)]; omega
    rw [hnb] at bF
    have hle : (m.length - k - 1) * (a + b + 3) ≤ m.length * (a + b + 3) := Nat.mul_le_mul_right _ (by omega)
    have hc1 : a + b + 3 ≤ m.length * (a + b + 3) := Nat.le_mul_of_pos_left _ (by omega)
    have hle2 : (m.length - k) * (a + b + 3) ≤ m.length * (a + b + 3) := Nat.mul_le_mul_right _ (by omega)
    have bt := (bl.co j).mul (bm.co k)
    have bs := bF.add bt
    have hs1 : (m.length - k - 1) * (a + b + 3) + (a + b + 3) = (m.length - k) * (a + b + 3) := by
      have : m.length - k = (m.length - k - 1) + 1 := by omega
      conv => rhs; rw [this, Nat.succ_mul]
    have e1 := callF_times h0 h1 h6 (n := n) (bl.co j) (bm.co k) (by omega)
    have e2 := callF_plus h0 h1 h4 (n := n) bF bt (by omega)
    obtain ⟨F', z', e3, e4, e5, e6⟩ := in_loop h4 h6 (n := n) bl bm hj hc d (k + 1) (F.set (j + k) (co F (j + k) + co l j * co m k)) (some (.int k, false)) (by omega) (by rw [List.length_set]; exact hF) (fun i hi2 => by
      rw [List.length_set] at hi2
      by_cases hij : i = j + k
      · subst hij
        have ec : co (F.set (j + k) (co F (j + k) + co l j * co m k)) (j + k) = co F (j + k) + co l j * co m k := by
          unfold co; rw [List.getD_eq_getElem?_getD, List.getElem?_set_self hi2]; rfl
        rw [ec]
        refine bs.mono ?_
        have : nb m.length j (k + 1) (j + k) = m.length - k := by unfold nb; rw [if_neg (by omega), if_pos (by omega)]; omega
        rw [this]; omega
      · have ec : co (F.set (j + k) (co F (j + k) + co l j * co m k)) i = co F i := by
          unfold co; rw [List.getD_eq_getElem?_getD, List.getElem?_set_ne (fun z => hij z.symm), List.getD_eq_getElem?_getD]
        rw [ec]
        refine (hb i hi2).mono ?_
        have : nb m.length j k i ≤ nb m.length j (k + 1) i := by unfold nb; split <;> (try split) <;> (try split) <;> omega
        have := Nat.mul_le_mul_right (a + b + 3) this
        omega)
    rw [List.length_set] at e4 e5
    refine ⟨F', z', ?_, e4, e5, fun x => ?_⟩
    · have hix : L2.ixN ((F.map nv).length) ((j : Int) + k) = some (j + k) := by
        unfold L2.ixN
        rw [List.length_map, if_pos (by omega), if_pos (by omega)]; congr 1
      have eF : evIx (lv F) (.int ((j : Int) + k)) = .ok (nv (co F (j + k))) := ix_lvN (k := j + k) (by omega) (co_get hi)
      have el : evIx (cv l) (.int (j : Int)) = .ok (nv (co l j)) := ix_cvN rfl (co_get hj)
      have em : evIx (cv m) (.int (k : Int)) = .ok (nv (co m k)) := ix_cvN rfl (co_get hkm)
      have ep : ixPut (F.map nv) ((j : Int) + k) (nv (co F (j + k) + co l j * co m k)) = .ok ((F.set (j + k) (co F (j + k) + co l j * co m k)).map nv) := by
        unfold ixPut; rw [hix, List.map_set]
      rw [← e3, rngV_succ]
      refine forL_cons (env1 := [some (cv l, false), some (cv m, false), some (lv F, true), some (.int j, false), some (.int k, false)]) rfl ?_
      unfold inB
      clear e3 e4 e5 e6 bs bt bF hb bl bm hle hle2 hc1 hs1 hnb hix
      walk_at "evh"
    · have ed : m.drop k = co m k :: m.drop (k + 1) := by
        have h := co_get hkm
        rw [List.drop_eq_getElem_cons hkm]
        congr 1
        rw [List.getElem?_eq_getElem hkm] at h
        exact Option.some.inj h
      rw [e6, ev_set F (j + k) hi, ed, ev_cons]
      have ex : x ^ (j + (k + 1)) = x ^ (j + k) * x := by rw [← Nat.add_assoc, Rat.pow_succ]
      rw [ex]; grind
theorem out_loop (h4 : FT 4 = some fd_plus) (h6 : FT 6 = some fd_times) {n a b : Nat} {l m : List Rat} (bl : BL (a + 1) l) (bm : BL (b + 1) m) (hm : m.length ≤ 1000) (hc : 1 + m.length * (a + b + 3) < 120000000) : ∀ (d j : Nat) (F : List Rat) (z3 z4 : Option (Val × Bool)), j + d = l.length → F.length = l.length + m.length - 1 → (∀ i < F.length, Bd (1 + nb m.length j 0 i * (a + b + 3)) (co F i)) →
    ∃ F' y3 y4, forL (.one 3) (fun env' => evSs (callF FT (n + 3)) outB env') (rngV j d) [some (cv l, false), some (cv m, false), some (lv F, true), z3, z4] = .nx [some (cv l, false), some (cv m, false), some (lv F', true), y3, y4] ∧ F'.length = F.length ∧ (∀ i < F.length, Bd (1 + m.length * (a + b + 3)) (co F' i)) ∧ ∀ x, ev F' x = ev F x + x ^ j * ev (l.drop j) x * ev m x
  | 0, j, F, z3, z4, hj, hF, hb => by
    have : j = l.length := by omega
    subst this
    refine ⟨F, z3, z4, rfl, rfl, fun i hi => (hb i hi).mono ?_, fun x => ?_⟩
    · have := Nat.mul_le_mul_right (a + b + 3) (nb_le (M := m.length) (j := l.length) (k := 0) (i := i)); omega
    · rw [List.drop_length]; show ev F x = ev F x + _ * (0 : Rat) * _; grind
  | d + 1, j, F, z3, z4, hj, hF, hb => by
    have hjl : j < l.length := by omega
    obtain ⟨F1, y4, e1, e2, e3, e4⟩ := in_loop h0 h1 h4 h6 (n := n) bl bm hjl hc m.length 0 F z4 (by omega) hF hb
    obtain ⟨F', y3, y4', g1, g2, g3, g4⟩ := out_loop h4 h6 (n := n) bl bm hm hc d (j + 1) F1 (some (.int j, false)) y4 (by omega) (by omega) (fun i hi => by
      rw [e2] at hi
      refine (e3 i hi).mono ?_
      have : nb m.length j m.length i ≤ nb m.length (j + 1) 0 i := by unfold nb; split <;> (try split) <;> (try split) <;> omega
      have := Nat.mul_le_mul_right (a + b + 3) this
      omega)
    refine ⟨F', y3, y4', ?_, by omega, by rw [e2] at g3; exact g3, fun x => ?_⟩
    · rw [← g1, rngV_succ]
      refine forL_cons (env1 := [some (cv l, false), some (cv m, false), some (lv F, true), some (.int j, false), z4]) rfl ?_
      have r : rngOk (m.length : Int) = true := rng_ok (by omega)
      have et : ((m.length : Int)).toNat = m.length := Int.toNat_natCast _
      have e1 : forL (.one 4) (fun env' => evSs (callF FT (n + 3)) inB env') (rngV 0 m.length) _ = _ := e1
      unfold outB
      clear e2 e3 e4 g1 g2 g3 g4 hb bl bm
      walk_at "evh"
    · have ed : l.drop j = co l j :: l.drop (j + 1) := by
        have h := co_get hjl
        rw [List.drop_eq_getElem_cons hjl]
        congr 1
        rw [List.getElem?_eq_getElem hjl] at h
        exact Option.some.inj h
      rw [g4, e4, ed, ev_cons, List.drop_zero, Nat.add_zero, Rat.pow_succ]
      grind
theorem callF_product (h4 : FT 4 = some fd_plus) (h6 : FT 6 = some fd_times) (h8 : FT 8 = some fd_without_noughts) (h15 : FT 15 = some fd_product) {n a b : Nat} {l m : List Rat} (bl : BL (a + 1) l) (bm : BL (b + 1) m) (hl : l.length ≤ 1000) (hm : m.length ≤ 1000) (hc : 1 + m.length * (a + b + 3) < 120000000) :
    callF FT (n + 4) 15 [cv l, cv m] = .ok (cv (mulP l m), false) ∧ BL (1 + m.length * (a + b + 3)) (mulP l m) := by
  obtain ⟨F', y3, y4, e1, e2, e3, e4⟩ := out_loop h0 h1 h4 h6 (n := n) bl bm hm hc l.length 0 (List.replicate (l.length + m.length - 1) 0) none none (by omega) (by rw [List.length_replicate]) (fun i hi => by
    have : co (List.replicate (l.length + m.length - 1) (0 : Rat)) i = 0 := by
      unfold co
      rw [List.length_replicate] at hi
      rw [List.getD_eq_getElem?_getD, List.getElem?_replicate, if_pos hi]; rfl
    rw [this, Nat.add_comm]; exact Bd0)
  have et : trim F' = mulP l m := ev_inj (trim_trim _) .mulP fun x => by
    rw [ev_trim, ev_mulP, e4, ev_rep, List.drop_zero, Rat.pow_zero]; grind
  refine ⟨?_, fun q hq => ?_⟩
  · rw [callF_s h15 rfl]
    have hx : (if (l.length : Int) + m.length - 1 > 0 then (l.length : Int) + m.length - 1 else 0) = (l.length + m.length - 1 : Nat) := by split <;> omega
    have er : evBin .mul (lv [0]) (.int (if (l.length : Int) + m.length - 1 > 0 then (l.length : Int) + m.length - 1 else 0)) = .ok (lv (List.replicate (l.length + m.length - 1) 0)) := by
      rw [hx, rep_lv (by omega) (by omega), Int.toNat_natCast]
    have e5 := callF_wn h8 (n := n + 2) (L := lv F') (l := F') (.inr rfl)
    rw [et] at e5
    have r : rngOk (l.length : Int) = true := rng_ok (by omega)
    have etn : ((l.length : Int)).toNat = l.length := Int.toNat_natCast _
    have eb : fd_product.body = [.set 2 (.bin .mul (.lst [(.cst (.tup [(.int 0), (.int 1)]))]) (.blt .max2 [(.cst (.int 0)), (.bin .sub (.bin .add (.blt .len [(.bor 0)]) (.blt .len [(.bor 1)])) (.cst (.int 1)))])), .for (.one 3) (.rng1 (.blt .len [(.bor 0)])) outB, .ret (.call 8 [(.nm 2)])] := rfl
    rw [eb, show fd_product.nl = 5 from rfl]
    have e1 : forL (.one 3) (fun env' => evSs (callF FT (n + 3)) outB env') (rngV 0 l.length) _ = _ := e1
    clear eb et e2 e3 e4 bl bm hx
    walk_at "evh"
  · rw [← et] at hq
    obtain ⟨k, hk⟩ := List.mem_iff_getElem?.mp (trim_mem hq)
    have hk2 := (List.getElem?_eq_some_iff.mp hk).1
    have := e3 k (by omega)
    rw [co_get hk2] at hk
    cases hk; exact this
theorem callF_multiplied (h4 : FT 4 = some fd_plus) (h6 : FT 6 = some fd_times) (h8 : FT 8 = some fd_without_noughts) (h9 : FT 9 = some fd_curve_of) (h15 : FT 15 = some fd_product) (h16 : FT 16 = some fd_multiplied) {n a b : Nat} {l m : List Rat} (bl : BL (a + 1) l) (bm : BL (b + 1) m) (hl : l.length ≤ 1000) (hm : m.length ≤ 1000) (hc : 1 + m.length * (a + b + 3) < 120000000) :
    callF FT (n + 5) 16 [cv l, cv m] = if (mulP l m).length ≤ 13 then .ok (cv (mulP l m), false) else .exc 3 := by
  rw [callF_s h16 rfl]
  have e1 := (callF_product h0 h1 h4 h6 h8 h15 (n := n) bl bm hl hm hc).1
  have et : trim (mulP l m) = mulP l m := trim_trim _
  unfold fd_multiplied
  by_cases h : (mulP l m).length ≤ 13
  · have e2 := callF_curve_of h8 h9 (n := n + 2) (L := cv (mulP l m)) (.inl rfl) (by rw [et]; exact h)
    rw [et] at e2
    rw [if_pos h]
    clear bl bm et h
    walk_at "evh"
  · have e2 := callF_curve_ofX h8 h9 (n := n + 2) (L := cv (mulP l m)) (.inl rfl) (by rw [et]; omega)
    rw [if_neg h]
    clear bl bm et h
    walk_at "evh"
theorem callF_slope (h6 : FT 6 = some fd_times) (h17 : FT 17 = some fd_slope) {n a : Nat} {l : List Rat} (bl : BL (a + 1) l) (hl : l.length ≤ 1000) (ha : a < 100000000) :
    callF FT (n + 4) 17 [cv l] = .ok (cv (slpR l), false) := by
  rw [callF_s h17 rfl]
  have r1 : rngOk 1 = true := rfl
  have r2 : rngOk (l.length : Int) = true := rng_ok (by omega)
  have e : lcR (callF FT (n + 3)) (.ok (rngV 1 (l.length - 1))) (.one 1) none (.call 6 [(.ix (.bor 0) (.bor 1)), (.tup [(.nm 1), (.cst (.int 1))])]) [some (cv l, false), none] = .ok (lv (slpR l)) := by
    refine lcR_rng (by omega) fun k hk => ?_
    have bk : Bd 10 (((k + 1 : Nat) : Rat)) := by
      constructor
      · rw [Rat.num_natCast, Int.natAbs_natCast]; show k + 1 < 1024; omega
      · rw [Rat.den_natCast]; decide
    have e1 := callF_times h0 h1 h6 (n := n) (bl.co (k + 1)) bk (by omega)
    have e2 : evIx (cv l) (.int (1 + (k : Int))) = .ok (nv (co l (k + 1))) := ix_cvN (k := k + 1) (by omega) (co_get (by omega))
    have e3 : Val.tup [.int (1 + (k : Int)), .int 1] = nv ((k + 1 : Nat) : Rat) := by
      unfold nv; rw [Rat.num_natCast, Rat.den_natCast]; congr 3; omega
    clear bl bk
    walk_at "evh"
  have et : ((l.length : Int) - 1).toNat = l.length - 1 := by omega
  unfold fd_slope
  clear bl
  walk_at "evh"
end
end
end G

set_option linter.all false
set_option maxHeartbeats 1000000
set_option maxRecDepth 10000
/-! F7: curves multiplied out into a list, whatever else the slots hold. -/
namespace G
open PySem
section
variable {l m : List Rat} {a b B : Nat}
theorem co_set_self {F : List Rat} {i : Nat} {v : Rat} (h : i < F.length) : co (F.set i v) i = v := by
  unfold co; rw [List.getD_eq_getElem?_getD, List.getElem?_set_self h]; rfl
theorem co_set_ne {F : List Rat} {i k : Nat} {v : Rat} (h : i ≠ k) : co (F.set k v) i = co F i := by
  unfold co; rw [List.getD_eq_getElem?_getD, List.getElem?_set_ne (fun z => h z.symm), List.getD_eq_getElem?_getD]
theorem drop_co {l : List Rat} {k : Nat} (h : k < l.length) : l.drop k = co l k :: l.drop (k + 1) := by
  have h1 := co_get h
  rw [List.drop_eq_getElem_cons h]
  congr 1
  rw [List.getElem?_eq_getElem h] at h1
  exact Option.some.inj h1
theorem mulg_in (bl : BL (a + 1) l) (bm : BL (b + 1) m) {j t : Nat} (hj : j < l.length) {body : Env → O} (Sh : List Rat → Env → Prop)
    (step : ∀ (k : Nat) (F : List Rat) (env : Env), k < m.length → j + k < F.length → Bd (B + m.length * (a + b + 3)) (co F (j + k)) → Sh F env → ∃ env1 env2, bindT (.one t) env (.int k) = .ok env1 ∧ body env1 = .nx env2 ∧ Sh (F.set (j + k) (co F (j + k) + co l j * co m k)) env2) :
    ∀ (d k : Nat) (F : List Rat) (env : Env), k + d = m.length → l.length + m.length - 1 ≤ F.length → (∀ i < F.length, Bd (B + nb m.length j k i * (a + b + 3)) (co F i)) → Sh F env →
    ∃ F' env', forL (.one t) body (rngV k d) env = .nx env' ∧ Sh F' env' ∧ F'.length = F.length ∧ (∀ i < F.length, Bd (B + nb m.length j m.length i * (a + b + 3)) (co F' i)) ∧ ∀ x, ev F' x = ev F x + co l j * x ^ (j + k) * ev (m.drop k) x
  | 0, k, F, env, hk, hF, hb, hs => by
    have : k = m.length := by omega
    subst this
    refine ⟨F, env, rfl, hs, rfl, hb, fun x => ?_⟩
    rw [List.drop_length]; show ev F x = ev F x + _ * (0 : Rat); grind
  | d + 1, k, F, env, hk, hF, hb, hs => by
    have hkm : k < m.length := by omega
    have hi : j + k < F.length := by omega
    have bF := hb (j + k) hi
    have hnb : nb m.length j k (j + k) = m.length - k - 1 := by unfold nb; rw [if_neg (by omega), if_neg (by omega)]; omega
    rw [hnb] at bF
    have hle : (m.length - k - 1) * (a + b + 3) ≤ m.length * (a + b + 3) := Nat.mul_le_mul_right _ (by omega)
    have bs := bF.add ((bl.co j).mul (bm.co k))
    have hs1 : (m.length - k - 1) * (a + b + 3) + (a + b + 3) = (m.length - k) * (a + b + 3) := by
      have : m.length - k = (m.length - k - 1) + 1 := by omega
      conv => rhs; rw [this, Nat.succ_mul]
    obtain ⟨env1, env2, h1, h2, h3⟩ := step k F env hkm hi (bF.mono (by omega)) hs
    obtain ⟨F', env', e3, e3', e4, e5, e6⟩ := mulg_in bl bm hj Sh step d (k + 1) (F.set (j + k) (co F (j + k) + co l j * co m k)) env2 (by omega) (by rw [List.length_set]; exact hF) (fun i hi2 => by
      rw [List.length_set] at hi2
      by_cases hij : i = j + k
      · subst hij
        rw [co_set_self hi2]
        refine bs.mono ?_
        have : nb m.length j (k + 1) (j + k) = m.length - k := by unfold nb; rw [if_neg (by omega), if_pos (by omega)]; omega
        rw [this]; omega
      · rw [co_set_ne hij]
        refine (hb i hi2).mono ?_
        have : nb m.length j k i ≤ nb m.length j (k + 1) i := by unfold nb; split <;> (try split) <;> (try split) <;> omega
        have := Nat.mul_le_mul_right (a + b + 3) this
        omega) h3
    rw [List.length_set] at e4 e5
    refine ⟨F', env', ?_, e3', e4, e5, fun x => ?_⟩
    · rw [rngV_succ, forL_cons h1 h2, ← e3]; rfl
    · have ex : x ^ (j + (k + 1)) = x ^ (j + k) * x := by rw [← Nat.add_assoc, Rat.pow_succ]
      rw [e6, ev_set F (j + k) hi, drop_co hkm, ev_cons, ex]; grind
theorem mulg_out (bl : BL (a + 1) l) (bm : BL (b + 1) m) {t s : Nat} {body body2 : Env → O} (Sh : Nat → List Rat → Env → Prop) (So : List Rat → Env → Prop)
    (step : ∀ (j k : Nat) (F : List Rat) (env : Env), j < l.length → k < m.length → j + k < F.length → Bd (B + m.length * (a + b + 3)) (co F (j + k)) → Sh j F env → ∃ env1 env2, bindT (.one t) env (.int k) = .ok env1 ∧ body env1 = .nx env2 ∧ Sh j (F.set (j + k) (co F (j + k) + co l j * co m k)) env2)
    (row : ∀ (j : Nat) (F : List Rat) (env : Env), j < l.length → So F env → ∃ env1 env2, bindT (.one s) env (.int j) = .ok env1 ∧ Sh j F env2 ∧ ∀ F' env', forL (.one t) body (rngV 0 m.length) env2 = .nx env' → Sh j F' env' → ∃ env3, body2 env1 = .nx env3 ∧ So F' env3) :
    ∀ (d j : Nat) (F : List Rat) (env : Env), j + d = l.length → l.length + m.length - 1 ≤ F.length → (∀ i < F.length, Bd (B + nb m.length j 0 i * (a + b + 3)) (co F i)) → So F env →
    ∃ F' env', forL (.one s) body2 (rngV j d) env = .nx env' ∧ So F' env' ∧ F'.length = F.length ∧ (∀ i < F.length, Bd (B + m.length * (a + b + 3)) (co F' i)) ∧ ∀ x, ev F' x = ev F x + x ^ j * ev (l.drop j) x * ev m x
  | 0, j, F, env, hj, hF, hb, hs => by
    have : j = l.length := by omega
    subst this
    refine ⟨F, env, rfl, hs, rfl, fun i hi => (hb i hi).mono ?_, fun x => ?_⟩
    · have := Nat.mul_le_mul_right (a + b + 3) (nb_le (M := m.length) (j := l.length) (k := 0) (i := i)); omega
    · rw [List.drop_length]; show ev F x = ev F x + _ * (0 : Rat) * _; grind
  | d + 1, j, F, env, hj, hF, hb, hs => by
    have hjl : j < l.length := by omega
    obtain ⟨env1, env2, r1, r2, r3⟩ := row j F env hjl hs
    obtain ⟨F1, env4, e1, e1', e2, e3, e4⟩ := mulg_in bl bm hjl (Sh j) (fun k F env hk hi hb hs => step j k F env hjl hk hi hb hs) m.length 0 F env2 (by omega) hF hb r2
    obtain ⟨env3, r4, r5⟩ := r3 F1 env4 e1 e1'
    obtain ⟨F', env', g1, g1', g2, g3, g4⟩ := mulg_out bl bm Sh So step row d (j + 1) F1 env3 (by omega) (by omega) (fun i hi => by
      rw [e2] at hi
      refine (e3 i hi).mono ?_
      have : nb m.length j m.length i ≤ nb m.length (j + 1) 0 i := by unfold nb; split <;> (try split) <;> (try split) <;> omega
      have := Nat.mul_le_mul_right (a + b + 3) this
      omega) r5
    refine ⟨F', env', ?_, g1', by omega, by rw [e2] at g3; exact g3, fun x => ?_⟩
    · rw [rngV_succ, forL_cons r1 r4, ← g1]; rfl
    · rw [g4, e4, drop_co hjl, ev_cons, List.drop_zero, Nat.add_zero, Rat.pow_succ]
      grind
end
end G

set_option linter.all false
set_option maxHeartbeats 1000000
/-! M3: sizes by one bottom for all. -/
namespace G
/-- all of l over D, tops below 2^M -/
def Cm (D M : Nat) (l : List Rat) : Prop := ∀ a ∈ l, ∃ n : Int, a * (D : Rat) = (n : Rat) ∧ n.natAbs < 2 ^ M
theorem natCast_ne {D : Nat} (h : 0 < D) : (D : Rat) ≠ 0 := fun z => by have := Rat.natCast_eq_zero_iff.mp z; omega
theorem cm_div {D : Nat} (h : 0 < D) {a : Rat} {n : Int} (e : a * (D : Rat) = (n : Rat)) : a = Rat.divInt n D := by
  have hd := natCast_ne h
  rw [Rat.divInt_eq_div, Rat.intCast_natCast]; grind
theorem num_den (a : Rat) : a * (a.den : Rat) = (a.num : Rat) := by
  have h := Rat.num_divInt_den a
  rw [Rat.divInt_eq_div, Rat.intCast_natCast] at h
  have := natCast_ne a.den_pos
  grind
theorem Cm.bl {D M d : Nat} {l : List Rat} (h : Cm D M l) (h0 : 0 < D) (hd : D < 2 ^ d) (hp : 0 < d) : ∀ a ∈ l, Bd (d + M) a := fun a ha => by
  obtain ⟨n, e, hn⟩ := h a ha
  rw [cm_div h0 e]
  exact .divInt (by omega) (pow_up hn (by omega)) (by rw [Int.natAbs_natCast]; exact pow_up hd (by omega))
theorem Cm.co {D M : Nat} {l : List Rat} (h : Cm D M l) (k : Nat) : ∃ n : Int, co l k * (D : Rat) = (n : Rat) ∧ n.natAbs < 2 ^ M := by
  by_cases hk : k < l.length
  · exact h _ (List.mem_iff_getElem?.mpr ⟨k, co_get hk⟩)
  · rw [co_out (by omega)]
    exact ⟨0, by rw [Rat.intCast_zero]; grind, by show 0 < 2 ^ M; exact Nat.pow_pos (by decide)⟩
theorem Cm.trim {D M : Nat} {l : List Rat} (h : Cm D M l) : Cm D M (trim l) := fun a ha => h a (trim_mem ha)
theorem Cm.mono {D M N : Nat} {l : List Rat} (h : Cm D M l) (e : M ≤ N) : Cm D N l := fun a ha => by
  obtain ⟨n, e1, e2⟩ := h a ha
  exact ⟨n, e1, pow_up e2 e⟩
/-- over a greater bottom -/
theorem Cm.more {D M E e : Nat} {l : List Rat} (h : Cm D M l) (hE : E < 2 ^ e) : Cm (D * E) (M + e) l := fun a ha => by
  obtain ⟨n, e1, e2⟩ := h a ha
  refine ⟨n * E, ?_, ?_⟩
  · rw [Rat.natCast_mul, Rat.intCast_mul, Rat.intCast_natCast, ← e1]; grind
  · rw [Int.natAbs_mul, Int.natAbs_natCast]; exact lt_mul e2 hE
theorem mul_lt_pow {a b m n : Nat} (ha : a < 2 ^ m) (hb : b < 2 ^ n) : a * b < 2 ^ (m + n) := lt_mul ha hb
/-- one bottom for all -/
theorem cm_of {K : Nat} : ∀ (l : List Rat), (∀ a ∈ l, Bd K a) → ∃ D : Nat, 0 < D ∧ D < 2 ^ (l.length * K + 1) ∧ Cm D (l.length * K + 1) l
  | [], _ => ⟨1, by decide, by simp, fun _ h => by cases h⟩
  | a :: l, h => by
    obtain ⟨D, h0, h1, h2⟩ := cm_of l fun b hb => h b (List.mem_cons_of_mem _ hb)
    have ba := h a List.mem_cons_self
    have e : (a :: l).length * K + 1 = l.length * K + 1 + K := by rw [List.length_cons, Nat.succ_mul]; omega
    refine ⟨D * a.den, Nat.mul_pos h0 a.den_pos, by rw [e]; exact lt_mul h1 ba.2, fun b hb => ?_⟩
    rw [e]
    rcases List.mem_cons.mp hb with rfl | hb
    · refine ⟨b.num * D, ?_, ?_⟩
      · rw [Rat.natCast_mul, Rat.intCast_mul, Rat.intCast_natCast, ← num_den b]; grind
      · rw [Int.natAbs_mul, Int.natAbs_natCast, Nat.add_comm]; exact lt_mul ba.1 h1
    · exact h2.more ba.2 b hb
/-! ### coefficients -/
theorem co_trim : ∀ (l : List Rat) (k : Nat), co (trim l) k = co l k
  | [], _ => rfl
  | a :: l, k => by
    rw [trim]
    have ih := co_trim l
    split
    · rename_i h
      cases k with
      | zero => rw [h.2]; rfl
      | succ k =>
        have := ih k
        rw [h.1] at this
        show (0 : Rat) = co l k
        rw [← this]; rfl
    · cases k with
      | zero => rfl
      | succ k => exact ih k
theorem co_scl {c : Rat} : ∀ (l : List Rat) (k : Nat), co (sclR c l) k = co l k * c
  | [], k => by rw [co_out (by simp [sclR]), co_out (by simp)]; grind
  | a :: l, 0 => rfl
  | a :: l, k + 1 => co_scl l k
theorem co_mul2 {c : Rat} : ∀ (F : List Rat) (k : Nat), co (mulR F [c, 1]) k = co F k * c + (match k with | 0 => 0 | k + 1 => co F k)
  | [], 0 => by show (0 : Rat) = 0 * c + 0; grind
  | [], k + 1 => by show (0 : Rat) = 0 * c + 0; grind
  | f :: F, 0 => by
    show c * f + 0 = f * c + 0
    grind
  | f :: F, 1 => by
    have ih := co_mul2 (c := c) F 0
    show co (addR (sclR f [c, 1]) (0 :: mulR F [c, 1])) 1 = co F 0 * c + f
    rw [addR_co]
    show 1 * f + co (mulR F [c, 1]) 0 = _
    rw [ih]; show 1 * f + (co F 0 * c + 0) = _; grind
  | f :: F, k + 2 => by
    have ih := co_mul2 (c := c) F (k + 1)
    show co (addR (sclR f [c, 1]) (0 :: mulR F [c, 1])) (k + 2) = co F (k + 1) * c + co F k
    rw [addR_co, co_out (l := sclR f [c, 1]) (by simp [sclR])]
    show 0 + co (mulR F [c, 1]) (k + 1) = _
    rw [ih]; show 0 + (co F (k + 1) * c + co F k) = _; grind
theorem mem_co {l : List Rat} {a : Rat} (h : a ∈ l) : ∃ k, a = co l k := by
  obtain ⟨k, hk⟩ := List.mem_iff_getElem?.mp h
  have := co_get (List.getElem?_eq_some_iff.mp hk).1
  rw [hk] at this
  exact ⟨k, Option.some.inj this⟩
theorem co_addP {l m : List Rat} {k : Nat} : co (addP l m) k = co l k + co m k := by unfold addP; rw [co_trim, addR_co]
theorem co_mov {c a : Rat} {s : List Rat} (k : Nat) : co (movP c (a :: s)) k = co (movP c s) k * (-c) + (match k with | 0 => a | k + 1 => co (movP c s) k) := by
  show co (addP (mulP (movP c s) [-c, 1]) (trim [a])) k = _
  rw [co_addP, co_trim, mulP, co_trim, co_mul2]
  cases k with
  | zero => show _ + 0 + a = _; grind
  | succ k =>
    have e : co [] k = 0 := rfl
    show co (movP c s) (k + 1) * -c + co (movP c s) k + co [] k = _
    rw [e]; show _ = co (movP c s) (k + 1) * -c + co (movP c s) k; grind
theorem cm_mov {D M j : Nat} {c : Rat} (bc : Bd j c) (h0 : 0 < D) : ∀ (s : List Rat), Cm D M s → Cm (D * c.den ^ s.length) (M + s.length * (j + 2)) (movP c s)
  | [], _ => fun a h => by cases h
  | a :: s, h => fun v hv => by
    have ih := cm_mov bc h0 s fun b hb => h b (List.mem_cons_of_mem _ hb)
    obtain ⟨k, rfl⟩ := mem_co hv
    rw [co_mov]
    obtain ⟨n1, e1, b1⟩ := ih.co k
    obtain ⟨na, ea, ba⟩ := h a List.mem_cons_self
    have hq : (c.den : Rat) * c = (c.num : Rat) := by rw [← num_den c]; grind
    have hE : M + (a :: s).length * (j + 2) = M + s.length * (j + 2) + j + 2 := by rw [List.length_cons, Nat.succ_mul]; omega
    have hden : (c.den : Nat) ^ s.length < 2 ^ (s.length * j + 1) := by
      have : ∀ i : Nat, c.den ^ i < 2 ^ (i * j + 1) := fun i => by
        induction i with
        | zero => simp
        | succ i ih =>
          have e : (i + 1) * j + 1 = i * j + 1 + j := by rw [Nat.succ_mul]; omega
          rw [Nat.pow_succ, e]; exact lt_mul ih bc.2
      exact this _
    rw [hE]
    have bn1 : (n1 * -c.num).natAbs < 2 ^ (M + s.length * (j + 2) + j) := by rw [Int.natAbs_mul, Int.natAbs_neg]; exact lt_mul b1 bc.1
    have hD : ((D * c.den ^ (a :: s).length : Nat) : Rat) = ((D * c.den ^ s.length : Nat) : Rat) * (c.den : Rat) := by
      rw [List.length_cons, Nat.pow_succ, ← Nat.mul_assoc, Rat.natCast_mul]
    cases k with
    | zero =>
      refine ⟨n1 * -c.num + na * ((c.den ^ s.length : Nat) : Int) * (c.den : Int), ?_, ?_⟩
      · show (_ * -c + a) * _ = _
        rw [hD, Rat.intCast_add, Rat.intCast_mul, Rat.intCast_mul, Rat.intCast_mul, Rat.intCast_neg, Rat.intCast_natCast, Rat.intCast_natCast, ← e1, ← ea, ← hq, Rat.natCast_mul]
        grind
      · have b2 : (na * ((c.den ^ s.length : Nat) : Int) * (c.den : Int)).natAbs < 2 ^ (M + s.length * (j + 2) + j + 1) := by
          rw [Int.natAbs_mul, Int.natAbs_mul, Int.natAbs_natCast, Int.natAbs_natCast]
          refine pow_up (lt_mul (lt_mul ba hden) bc.2) ?_
          have : s.length * j ≤ s.length * (j + 2) := Nat.mul_le_mul_left _ (by omega)
          omega
        exact natAbs_add_lt (pow_up bn1 (by omega)) b2
    | succ k =>
      obtain ⟨n2, e2, b2⟩ := ih.co k
      refine ⟨n1 * -c.num + n2 * (c.den : Int), ?_, ?_⟩
      · show (_ * -c + _) * _ = _
        rw [hD, Rat.intCast_add, Rat.intCast_mul, Rat.intCast_mul, Rat.intCast_neg, Rat.intCast_natCast, ← e1, ← e2, ← hq]
        grind
      · have b3 : (n2 * (c.den : Int)).natAbs < 2 ^ (M + s.length * (j + 2) + j) := by
          rw [Int.natAbs_mul, Int.natAbs_natCast]; exact lt_mul b2 bc.2
        exact pow_up (natAbs_add_lt bn1 b3) (by omega)
theorem pow_den {d j : Nat} (h : d < 2 ^ j) : ∀ i : Nat, d ^ i < 2 ^ (i * j + 1)
  | 0 => by simp
  | i + 1 => by
    have e : (i + 1) * j + 1 = i * j + 1 + j := by rw [Nat.succ_mul]; omega
    rw [Nat.pow_succ, e]; exact lt_mul (pow_den h i) h
/-- the moved curve's size -/
theorem mov_bl {K j : Nat} {c : Rat} {l : List Rat} (bc : Bd j c) (h : ∀ a ∈ l, Bd K a) (s : List Rat) (hs : ∃ t, l = t ++ s) : ∀ a ∈ movP c s, Bd (2 * (l.length * K) + l.length * (2 * j + 2) + 4) a := by
  obtain ⟨D, h0, h1, h2⟩ := cm_of l h
  obtain ⟨t, rfl⟩ := hs
  have hl : s.length ≤ (t ++ s).length := by simp
  have cs : Cm D ((t ++ s).length * K + 1) s := fun a ha => h2 a (List.mem_append_right _ ha)
  have cm := cm_mov bc h0 s cs
  have hd := lt_mul h1 (pow_den bc.2 s.length)
  intro a ha
  refine (cm.bl (Nat.mul_pos h0 (Nat.pow_pos c.den_pos)) hd (by omega) a ha).mono ?_
  have e1 : s.length * j ≤ (t ++ s).length * j := Nat.mul_le_mul_right _ hl
  have e2 : s.length * (j + 2) ≤ (t ++ s).length * (j + 2) := Nat.mul_le_mul_right _ hl
  have e3 : (t ++ s).length * (2 * j + 2) = (t ++ s).length * j + (t ++ s).length * (j + 2) := by rw [← Nat.mul_add]; congr 1; omega
  omega
end G

set_option linter.all false
set_option maxHeartbeats 1000000
set_option maxRecDepth 10000
/-! F8: curves moved, stretched. -/
namespace G
open PySem
local macro_rules | `(tactic| walk_at "ev") => `(tactic| simp only [vl_nm, vl_bor, vl_cst, vl_bin, vl_neg, vl_cmp, vl_isn, vl_chn, vl_inn, vl_and, vl_or, vl_not, vl_ifx, vl_ix, vl_slc, vl_rev, vl_tup, vl_lst, vl_call, vl_blt, vl_isi, vl_lc, ev_nm, ev_cst, ev_bin, ev_neg, ev_cmp, ev_isn, ev_chn, ev_inn, ev_and, ev_or, ev_not, ev_ifx, ev_ix, ev_slc, ev_rev, ev_tup, ev_lst, ev_call, ev_blt, ev_isi, ev_lc, evEs_nil, evEs_cons, evAs_nil, evAs_cons, evO_none, evO_some, evC_none, evC_some, evIt_val, evIt_rng1, evIt_rng2, evIt_rvd, evT_vl, andR_t, andR_f, orR_f, orR_t, ifxR_t, ifxR_f, chnR_t, chnR_f, ss_nil', ss_cons', thn_nx, thn_ret, thn_exc, thn_bad, s_set', set_ok, set_exc, s_unp', unp_ok, s_ifs', if_t, if_f, s_for', for_ok, s_whl', s_ret', s_retn', s_pass', s_rse', s_exp', s_try', try_nx, try_ret, try_exc, s_par', s_par3', s_six', s_app', s_pop', s_popu', s_rev', rO_ok, rO_exc, ret_nm, ret_bor, ret_cst, ret_bin, ret_neg, ret_cmp, ret_isn, ret_chn, ret_inn, ret_and, ret_or, ret_not, ret_ifx, ret_ix, ret_slc, ret_rev, ret_tup, ret_lst, ret_call, ret_blt, ret_isi, ret_lc, fin_nx, fin_ret, fin_exc, b_add, b_sub, b_mul, b_fdiv, b_mod, p11, p12, p30, p42, p57, p59, b_addL, b_addT, b_mulL, c_lt, c_le, c_gt, c_ge, truth_bl, toI_int, toB_bl, items_lst, items_tup, len_lst, len_tup, len_scr, abs_int, int_int, int_bl, list_lst, list_tup, list_scr, tuple_lst, tuple_tup, max_int, min_int, ix_p0, ix_p1, c_eqI, c_neI, startE, frzE, frzI, frzAll, frz, kept, keptL, keptO, keptI, put, look, lookF, ownL_s, ownS_lst, evCall, lent, borI, bind_one, bind_tup, putAll, isLst_int, isLst_bl, isLst_str, isLst_tup, isLst_non, isLst_scr, isLst_exc, isLst_lst, isNon_int, isNon_bl, isNon_str, isNon_tup, isNon_non, isNon_scr, isNon_exc, isNon_lst, R.bind_ok, R.bind_exc, R.map_ok, R.map_exc, List.map_cons, List.map_nil, List.length_cons, List.length_nil, List.replicate, List.cons_append, List.nil_append, List.append_nil, List.getElem?_cons_zero, List.getElem?_cons_succ, List.set_cons_zero, List.set_cons_succ, Bool.false_and, Bool.true_and, Bool.and_true, Bool.and_false, Bool.or_false, Bool.false_or, Bool.or_true, Bool.true_or, Bool.not_true, Bool.not_false, decide_true, decide_false, if_true, if_false, ite_true, ite_false, reduceCtorEq, reduceIte, Nat.reduceAdd, Nat.reduceSub, Nat.reduceMul, Nat.reduceEqDiff, Int.reduceEq, Int.reduceLT, Int.reduceLE, Int.reduceNe, Int.reduceNeg, Int.reduceAdd, Int.reduceMul, Int.reduceSub, Nat.reduceLT, Nat.reduceLeDiff, Int.reduceGT, Int.reduceGE, is_tup_tuple, is_tup_list, is_tup_int, is_tup_bool, is_tup_str, is_lst_tuple, is_lst_list, is_lst_int, is_lst_bool, is_lst_str, is_int_tuple, is_int_list, is_int_int, is_int_bool, is_int_str, is_bl_tuple, is_bl_list, is_bl_int, is_bl_bool, is_bl_str, is_str_tuple, is_str_list, is_str_int, is_str_bool, is_str_str, is_non_tuple, is_non_list, is_non_int, is_non_bool, is_non_str, forS_ok, forB_nx, forB_ret, forL_nil, lc_nil, Int.cast_ofNat_Int, lc_cons, vlE_d, lenOk0, lenOk1, lenOk2, lenOk3, wipe1, wipe2, R.noexc_ok, decide_eq_true_eq, eq_self, ix_nv0, ix_nv1, is_nv_tuple, is_cv_tuple, is_lv_list, is_lv_tuple, is_cv_list, isLst_nv, isLst_cv, isLst_lv, isNon_nv, isNon_cv, isNon_lv, bind_nv, items_cv, items_lv, len_cv, len_lv, list_cv, list_lv, tuple_cv, tuple_lv, c_eqN, c_neN, c_eqC, c_neC, c_eqL, c_neL, nv01, nv11, cv_nil, cv_one, rev_lv, rev_cv, lv_one, lv_map, cv_map, lenOk_map, List.length_map, ownS_lv, back_bl, back_int, back_nv, back_cv, back_lv, c_eqB, c_neB])
local macro_rules | `(tactic| walk_at "evh") => `(tactic| simp only [vl_nm, vl_bor, vl_cst, vl_bin, vl_neg, vl_cmp, vl_isn, vl_chn, vl_inn, vl_and, vl_or, vl_not, vl_ifx, vl_ix, vl_slc, vl_rev, vl_tup, vl_lst, vl_call, vl_blt, vl_isi, vl_lc, ev_nm, ev_cst, ev_bin, ev_neg, ev_cmp, ev_isn, ev_chn, ev_inn, ev_and, ev_or, ev_not, ev_ifx, ev_ix, ev_slc, ev_rev, ev_tup, ev_lst, ev_call, ev_blt, ev_isi, ev_lc, evEs_nil, evEs_cons, evAs_nil, evAs_cons, evO_none, evO_some, evC_none, evC_some, evIt_val, evIt_rng1, evIt_rng2, evIt_rvd, evT_vl, andR_t, andR_f, orR_f, orR_t, ifxR_t, ifxR_f, chnR_t, chnR_f, ss_nil', ss_cons', thn_nx, thn_ret, thn_exc, thn_bad, s_set', set_ok, set_exc, s_unp', unp_ok, s_ifs', if_t, if_f, s_for', for_ok, s_whl', s_ret', s_retn', s_pass', s_rse', s_exp', s_try', try_nx, try_ret, try_exc, s_par', s_par3', s_six', s_app', s_pop', s_popu', s_rev', rO_ok, rO_exc, ret_nm, ret_bor, ret_cst, ret_bin, ret_neg, ret_cmp, ret_isn, ret_chn, ret_inn, ret_and, ret_or, ret_not, ret_ifx, ret_ix, ret_slc, ret_rev, ret_tup, ret_lst, ret_call, ret_blt, ret_isi, ret_lc, fin_nx, fin_ret, fin_exc, b_add, b_sub, b_mul, b_fdiv, b_mod, p11, p12, p30, p42, p57, p59, b_addL, b_addT, b_mulL, c_lt, c_le, c_gt, c_ge, truth_bl, toI_int, toB_bl, items_lst, items_tup, len_lst, len_tup, len_scr, abs_int, int_int, int_bl, list_lst, list_tup, list_scr, tuple_lst, tuple_tup, max_int, min_int, ix_p0, ix_p1, c_eqI, c_neI, startE, frzE, frzI, frzAll, frz, kept, keptL, keptO, keptI, put, look, lookF, ownL_s, ownS_lst, evCall, lent, borI, bind_one, bind_tup, putAll, isLst_int, isLst_bl, isLst_str, isLst_tup, isLst_non, isLst_scr, isLst_exc, isLst_lst, isNon_int, isNon_bl, isNon_str, isNon_tup, isNon_non, isNon_scr, isNon_exc, isNon_lst, R.bind_ok, R.bind_exc, R.map_ok, R.map_exc, List.map_cons, List.map_nil, List.length_cons, List.length_nil, List.replicate, List.cons_append, List.nil_append, List.append_nil, List.getElem?_cons_zero, List.getElem?_cons_succ, List.set_cons_zero, List.set_cons_succ, Bool.false_and, Bool.true_and, Bool.and_true, Bool.and_false, Bool.or_false, Bool.false_or, Bool.or_true, Bool.true_or, Bool.not_true, Bool.not_false, decide_true, decide_false, if_true, if_false, ite_true, ite_false, reduceCtorEq, reduceIte, Nat.reduceAdd, Nat.reduceSub, Nat.reduceMul, Nat.reduceEqDiff, Int.reduceEq, Int.reduceLT, Int.reduceLE, Int.reduceNe, Int.reduceNeg, Int.reduceAdd, Int.reduceMul, Int.reduceSub, Nat.reduceLT, Nat.reduceLeDiff, Int.reduceGT, Int.reduceGE, is_tup_tuple, is_tup_list, is_tup_int, is_tup_bool, is_tup_str, is_lst_tuple, is_lst_list, is_lst_int, is_lst_bool, is_lst_str, is_int_tuple, is_int_list, is_int_int, is_int_bool, is_int_str, is_bl_tuple, is_bl_list, is_bl_int, is_bl_bool, is_bl_str, is_str_tuple, is_str_list, is_str_int, is_str_bool, is_str_str, is_non_tuple, is_non_list, is_non_int, is_non_bool, is_non_str, forS_ok, forB_nx, forB_ret, forL_nil, lc_nil, Int.cast_ofNat_Int, lc_cons, vlE_d, lenOk0, lenOk1, lenOk2, lenOk3, wipe1, wipe2, R.noexc_ok, decide_eq_true_eq, eq_self, ix_nv0, ix_nv1, is_nv_tuple, is_cv_tuple, is_lv_list, is_lv_tuple, is_cv_list, isLst_nv, isLst_cv, isLst_lv, isNon_nv, isNon_cv, isNon_lv, bind_nv, items_cv, items_lv, len_cv, len_lv, list_cv, list_lv, tuple_cv, tuple_lv, c_eqN, c_neN, c_eqC, c_neC, c_eqL, c_neL, nv01, nv11, cv_nil, cv_one, rev_lv, rev_cv, lv_one, lv_map, cv_map, lenOk_map, List.length_map, ownS_lv, back_bl, back_int, back_nv, back_cv, back_lv, c_eqB, c_neB, *])
def fd_moved : FD := ⟨2, 4, [.set 2 (.tup []), .for (.one 3) (.rvd (.nm 0)) [.set 2 (.call 13 [(.call 15 [(.nm 2), (.tup [(.tup [(.neg (.ix (.bor 1) (.cst (.int 0)))), (.ix (.bor 1) (.cst (.int 1)))]), (.cst (.tup [(.int 1), (.int 1)]))])]), (.call 8 [(.lst [(.nm 3)])])])], .ret (.nm 2)]⟩
def fd_stretched : FD := ⟨2, 5, [.ifs (.cmp .eq (.ix (.bor 1) (.cst (.int 0))) (.cst (.int 0))) [.rse 1] [], .set 2 (.lst []), .set 3 (.cst (.tup [(.int 1), (.int 1)])), .for (.one 4) (.val (.nm 0)) [.app 2 (.call 7 [(.nm 4), (.nm 3)]), .set 3 (.call 6 [(.nm 3), (.nm 1)])], .ret (.blt .tuple [(.bor 2)])]⟩
def movB : List S := [.set 2 (.call 13 [(.call 15 [(.nm 2), (.tup [(.tup [(.neg (.ix (.bor 1) (.cst (.int 0)))), (.ix (.bor 1) (.cst (.int 1)))]), (.cst (.tup [(.int 1), (.int 1)]))])]), (.call 8 [(.lst [(.nm 3)])])])]
def strB : List S := [.app 2 (.call 7 [(.nm 4), (.nm 3)]), .set 3 (.call 6 [(.nm 3), (.nm 1)])]
section
variable {FT : Nat → Option FD}
theorem neg_nv' {q : Rat} : Val.tup [.int (-q.num), .int q.den] = nv (-q) := by unfold nv; rw [Rat.neg_num, Rat.neg_den]
theorem cv_two {p q : Rat} : Val.tup [nv p, nv q] = cv [p, q] := rfl
section
variable (h0 : FT 0 = some fd_divisor_of) (h1 : FT 1 = some fd_number) (h4 : FT 4 = some fd_plus) (h6 : FT 6 = some fd_times) (h8 : FT 8 = some fd_without_noughts) (h11 : FT 11 = some fd_at_power) (h13 : FT 13 = some fd_added) (h15 : FT 15 = some fd_product)
include h0 h1 h4 h6 h8 h11 h13 h15
theorem mov_loop {n j K T : Nat} {L : Val} {c : Rat} (bc : Bd j c) (hT : T ≤ 10000000) (hj : j ≤ T) (hK : K ≤ T) : ∀ (ps s : List Rat) (z : Option (Val × Bool)), BL K ps → (∀ s', (∃ t, ps.reverse ++ s = t ++ s') → BL (T + 1) (movP c s')) → s.length + ps.length ≤ 100 →
    ∃ z', forL (.one 3) (fun env' => evSs (callF FT (n + 4)) movB env') (ps.map nv) [some (L, false), some (nv c, false), some (cv (movP c s), false), z] = .nx [some (L, false), some (nv c, false), some (cv (movP c (ps.reverse ++ s)), false), z']
  | [], s, z, _, hs, _ => ⟨z, rfl⟩
  | p :: ps, s, z, hp, hs, hl => by
    have bp : BL (T + 1) [p] := .cons ((hp p List.mem_cons_self).mono (by omega)) .nil
    have bpair : BL (T + 1) [-c, 1] := .cons (bc.neg.mono (by omega)) (.cons (Bd.mono (m := 1) ⟨by decide, by decide⟩ (by omega)) .nil)
    have hml := mov_len (c := c) s
    have hlen : s.length + (ps.length + 1) ≤ 100 := hl
    have er : (p :: ps).reverse ++ s = ps.reverse ++ (p :: s) := by simp
    have bs : BL (T + 1) (movP c s) := hs s ⟨(p :: ps).reverse, rfl⟩
    obtain ⟨c1, b1⟩ := callF_product h0 h1 h4 h6 h8 h15 (n := n) (l := movP c s) (m := [-c, 1]) bs bpair (by omega) (by simp) (by show 1 + 2 * (T + T + 3) < _; omega)
    have b1 : BL (2 * (T + T + 3) + 1) (mulP (movP c s) [-c, 1]) := b1.mono (by show 1 + 2 * (T + T + 3) ≤ _; omega)
    have c2 := callF_wn h8 (n := n + 3) (L := lv [p]) (l := [p]) (.inr rfl)
    have hmp := mulP_le (movP c s) [-c, 1]
    have c3 := callF_added h0 h1 h4 h8 h11 h13 (n := n) (l := mulP (movP c s) [-c, 1]) (m := trim [p]) b1 bp.trim (by simp at hmp; omega) (by have := trim_len [p]; simp at this; omega) (by omega)
    have ec : addP (mulP (movP c s) [-c, 1]) (trim [p]) = movP c (p :: s) := rfl
    rw [ec] at c3
    obtain ⟨z', g1⟩ := mov_loop (n := n) (L := L) bc hT hj hK ps (p :: s) (some (nv p, false)) (fun q hq => hp q (List.mem_cons_of_mem _ hq)) (fun s' h => hs s' (by rw [er]; exact h)) (by simp at hl ⊢; omega)
    rw [er]
    refine ⟨z', ?_⟩
    rw [List.map_cons, ← g1]
    refine forL_cons (env1 := [some (L, false), some (nv c, false), some (cv (movP c s), false), some (nv p, false)]) rfl ?_
    have en := neg_nv' (q := c)
    have e2v := cv_two (p := -c) (q := 1)
    unfold movB
    clear g1 b1 bp bpair bs hs hp bc hml hmp hl hlen ec er
    walk_at "evh"
theorem callF_moved (h18 : FT 18 = some fd_moved) {n j K : Nat} {c : Rat} {l : List Rat} (bc : Bd j c) (bl : BL K l) (hl : l.length ≤ 100) (hC : 2 * (l.length * K) + l.length * (2 * j + 2) + j + K + 4 ≤ 10000000) :
    callF FT (n + 5) 18 [cv l, nv c] = .ok (cv (movP c l), false) ∧ BL (2 * (l.length * K) + l.length * (2 * j + 2) + 4) (movP c l) := by
  refine ⟨?_, mov_bl bc bl l ⟨[], rfl⟩⟩
  obtain ⟨z', e⟩ := mov_loop h0 h1 h4 h6 h8 h11 h13 h15 (n := n) (L := cv l) bc hC (by omega) (by omega) l.reverse [] none (fun q hq => bl q (List.mem_reverse.mp hq)) (fun s' h => BL.mono (mov_bl bc bl s' (by rw [List.reverse_reverse, List.append_nil] at h; exact h)) (by omega)) (by simpa using hl)
  rw [List.reverse_reverse, List.append_nil] at e
  rw [callF_s h18 rfl]
  have er : (l.map nv).reverse = l.reverse.map nv := by rw [List.map_reverse]
  have eb : fd_moved.body = [.set 2 (.tup []), .for (.one 3) (.rvd (.nm 0)) movB, .ret (.nm 2)] := rfl
  rw [eb, show fd_moved.nl = 4 from rfl]
  have e : forL (.one 3) (fun env' => evSs (callF FT (n + 4)) movB env') (l.reverse.map nv) [some (cv l, false), some (nv c, false), some (cv [], false), none] = _ := e
  clear eb bc bl hC
  walk_at "evh"
end
theorem str_loop (h0 : FT 0 = some fd_divisor_of) (h1 : FT 1 = some fd_number) (h6 : FT 6 = some fd_times) (h7 : FT 7 = some fd_over) {n j K : Nat} {L : Val} {k : Rat} (hk : k ≠ 0) (bk : Bd j k) : ∀ (ps F : List Rat) (b : Rat) (i : Nat) (z : Option (Val × Bool)), b ≠ 0 → BL K ps → Bd i b → F.length + ps.length ≤ 1000 → i + ps.length * j + K + j < 100000000 →
    ∃ b' z', forL (.one 4) (fun env' => evSs (callF FT (n + 3)) strB env') (ps.map nv) [some (L, false), some (nv k, false), some (lv F, true), some (nv b, false), z] = .nx [some (L, false), some (nv k, false), some (lv (F ++ strG k b ps), true), some (nv b', false), z'] ∧ BL (K + i + ps.length * j) (strG k b ps)
  | [], F, b, i, z, _, _, _, _, _ => ⟨b, z, by show _ = O.nx [_, _, some (lv (F ++ []), true), _, _]; rw [List.append_nil]; rfl, .nil⟩
  | p :: ps, F, b, i, z, hb, hp, bb, hF, hC => by
    have bp := hp p List.mem_cons_self
    have em : (ps.length + 1) * j = ps.length * j + j := Nat.succ_mul _ _
    have hC : i + (ps.length + 1) * j + K + j < 100000000 := hC
    rw [em] at hC
    have e1 := callF_over h0 h1 h7 (n := n) (p := p) (q := b) hb bp bb (by omega)
    have e2 := callF_times h0 h1 h6 (n := n) (p := b) (q := k) bb bk (by omega)
    have hbk : b * k ≠ 0 := fun z => (Rat.mul_eq_zero.mp z).elim hb hk
    obtain ⟨b', z', g1, g2⟩ := str_loop h0 h1 h6 h7 (n := n) (L := L) hk bk ps (F ++ [p / b]) (b * k) (i + j) (some (nv p, false)) hbk (fun q hq => hp q (List.mem_cons_of_mem _ hq)) (bb.mul bk) (by simp at hF ⊢; omega) (by omega)
    refine ⟨b', z', ?_, ?_⟩
    · have lo : lenOk (F.length + 1) = true := lenOk_lit (by simp at hF; omega)
      have ea : F.map nv ++ [nv (p / b)] = (F ++ [p / b]).map nv := by simp
      show forL _ _ _ _ = O.nx [_, _, some (lv (F ++ (p / b :: strG k (b * k) ps)), true), _, _]
      rw [List.append_cons, List.map_cons, ← g1]
      refine forL_cons (env1 := [some (L, false), some (nv k, false), some (lv F, true), some (nv b, false), some (nv p, false)]) rfl ?_
      unfold strB
      clear g1 g2 bp bb hp bk hk hb hbk hC em hF
      walk_at "evh"
    · refine .cons ((bp.div bb).mono ?_) (g2.mono ?_)
      · show _ ≤ K + i + (ps.length + 1) * j; omega
      · show _ ≤ K + i + (ps.length + 1) * j; rw [em]; omega
theorem callF_stretched (h0 : FT 0 = some fd_divisor_of) (h1 : FT 1 = some fd_number) (h6 : FT 6 = some fd_times) (h7 : FT 7 = some fd_over) (h19 : FT 19 = some fd_stretched) {n j K : Nat} {k : Rat} {l : List Rat} (hk : k ≠ 0) (bk : Bd j k) (bl : BL K l) (hl : l.length ≤ 1000) (hC : 1 + l.length * j + K + j < 100000000) :
    callF FT (n + 4) 19 [cv l, nv k] = .ok (cv (strG k 1 l), false) ∧ BL (K + 1 + l.length * j) (strG k 1 l) := by
  obtain ⟨b', z', e, b1⟩ := str_loop h0 h1 h6 h7 (n := n) (L := cv l) hk bk l [] 1 1 none (by decide) bl ⟨by decide, by decide⟩ (by simpa using hl) hC
  refine ⟨?_, b1⟩
  rw [callF_s h19 rfl]
  have hd : decide (k.num = 0) = false := decide_eq_false fun z => hk (num_zero.mp z)
  have eb : fd_stretched.body = [.ifs (.cmp .eq (.ix (.bor 1) (.cst (.int 0))) (.cst (.int 0))) [.rse 1] [], .set 2 (.lst []), .set 3 (.cst (.tup [(.int 1), (.int 1)])), .for (.one 4) (.val (.nm 0)) strB, .ret (.blt .tuple [(.bor 2)])] := rfl
  rw [eb, show fd_stretched.nl = 5 from rfl]
  have en : Val.lst [] = lv [] := rfl
  rw [List.nil_append] at e
  clear eb b1 bk bl hC hk
  walk_at "evh"
theorem callF_stretchedX (h19 : FT 19 = some fd_stretched) {n : Nat} {l : List Rat} : callF FT (n + 1) 19 [cv l, nv 0] = .exc 1 := by
  rw [callF_s h19 rfl]
  have e : (0 : Rat).num = 0 := rfl
  unfold fd_stretched
  walk_at "evh"
end
end G

set_option linter.all false
set_option maxHeartbeats 1000000
/-! M4: division. -/
namespace G
theorem trim_le {n : Nat} : ∀ {l : List Rat}, (∀ k, n ≤ k → co l k = 0) → (trim l).length ≤ n
  | [], _ => Nat.zero_le _
  | a :: l, h => by
    cases n with
    | zero =>
      have : trim (a :: l) = [] := trim_zero fun b hb => by
        obtain ⟨k, rfl⟩ := mem_co hb
        exact h k (Nat.zero_le _)
      rw [this]; exact Nat.le_refl _
    | succ n =>
      have ih := trim_le (n := n) (l := l) fun k hk => h (k + 1) (by omega)
      rw [trim]
      split
      · exact Nat.zero_le _
      · exact Nat.succ_le_succ ih
theorem co_app_rep {i k : Nat} {l : List Rat} : co (List.replicate i 0 ++ l) k = if k < i then 0 else co l (k - i) := by
  unfold co
  rw [List.getD_eq_getElem?_getD, List.getD_eq_getElem?_getD]
  split
  · rename_i h
    rw [List.getElem?_append_left (by rw [List.length_replicate]; exact h), List.getElem?_replicate, if_pos h]; rfl
  · rename_i h
    rw [List.getElem?_append_right (by rw [List.length_replicate]; omega), List.length_replicate]
theorem ev_app_rep {x : Rat} {l : List Rat} : ∀ i : Nat, ev (List.replicate i 0 ++ l) x = x ^ i * ev l x
  | 0 => by show ev l x = x ^ 0 * _; rw [Rat.pow_zero]; grind
  | i + 1 => by
    have ih := ev_app_rep (x := x) (l := l) i
    show (0 : Rat) + x * ev (List.replicate i 0 ++ l) x = _
    rw [ih, Rat.pow_succ]; grind
/-- the last number -/
def ld (l : List Rat) : Rat := co l (l.length - 1)
/-- what is taken away in a step -/
def prt (m r : List Rat) : List Rat := List.replicate (r.length - m.length) 0 ++ m.map fun a => a * (ld r / ld m)
def stp (m r : List Rat) : List Rat := takP r (prt m r)
theorem prt_len {m r : List Rat} (h : m.length ≤ r.length) : (prt m r).length = r.length := by unfold prt; simp; omega
theorem co_map_mul {q : Rat} (l : List Rat) (k : Nat) : co (l.map fun a => a * q) k = co l k * q := co_scl l k
theorem co_prt {m r : List Rat} {k : Nat} : co (prt m r) k = if k < r.length - m.length then 0 else co m (k - (r.length - m.length)) * (ld r / ld m) := by
  unfold prt
  rw [co_app_rep, co_map_mul]
theorem co_stp {m r : List Rat} {k : Nat} : co (stp m r) k = co r k - co (prt m r) k := by
  unfold stp takP
  rw [co_addP, sclP, co_trim, co_scl]; grind
theorem stp_len {m r : List Rat} (hm : m ≠ []) (tm : Trim m) (h : m.length ≤ r.length) : (stp m r).length < r.length := by
  have hp : 0 < m.length := List.length_pos_iff.mpr hm
  have : (stp m r).length ≤ r.length - 1 := by
    have e : stp m r = trim (stp m r) := (Trim.takP (l := r) (m := prt m r)).symm
    rw [e]
    refine trim_le fun k hk => ?_
    rw [co_stp, co_prt, if_neg (by omega)]
    by_cases hk2 : k = r.length - 1
    · subst hk2
      have e1 : r.length - 1 - (r.length - m.length) = m.length - 1 := by omega
      have h0 : ld m ≠ 0 := tm.top hm
      rw [e1]
      show ld r - ld m * (ld r / ld m) = 0
      grind
    · rw [co_out (l := r) (by omega), co_out (l := m) (by omega)]; grind
  omega
theorem ev_prt {m r : List Rat} {x : Rat} : ev (prt m r) x = x ^ (r.length - m.length) * (ev m x * (ld r / ld m)) := by
  unfold prt
  rw [ev_app_rep]
  congr 1
  exact ev_scl m
theorem ev_stp {m r : List Rat} {x : Rat} : ev (stp m r) x = ev r x - x ^ (r.length - m.length) * (ev m x * (ld r / ld m)) := by
  unfold stp; rw [ev_takP, ev_prt]
/-- what is reached from l in t steps -/
inductive Rch (m l : List Rat) : Nat → List Rat → Prop
  | z : Rch m l 0 l
  | s {t : Nat} {r : List Rat} : Rch m l t r → m.length ≤ r.length → Rch m l (t + 1) (stp m r)
theorem Rch.trim {m l r : List Rat} {t : Nat} (tl : Trim l) (h : Rch m l t r) : Trim r := by
  cases h with
  | z => exact tl
  | s _ _ => exact Trim.takP
theorem Rch.len {m l r : List Rat} {t : Nat} (hm : m ≠ []) (tm : Trim m) (h : Rch m l t r) : r.length + t ≤ l.length := by
  induction h with
  | z => exact Nat.le_refl _
  | s h hl ih => have := stp_len hm tm hl; omega
/-- quotient and rest are the only ones -/
theorem div_only {m q r q' r' : List Rat} (tm : Trim m) (hm : m ≠ []) (tq : Trim q) (tq' : Trim q') (tr : Trim r) (tr' : Trim r') (hr : r.length < m.length) (hr' : r'.length < m.length) (h : ∀ x, ev q x * ev m x + ev r x = ev q' x * ev m x + ev r' x) : q = q' ∧ r = r' := by
  have e : mulP (takP q q') m = takP r' r := ev_inj .mulP .takP fun x => by
    rw [ev_mulP, ev_takP, ev_takP]; have := h x; grind
  have hq : takP q q' = [] := by
    rcases Decidable.em (takP q q' = []) with z | z
    · exact z
    · have h1 := mulP_len Trim.takP tm z hm
      have h2 := takP_len r' r
      have h3 : 0 < (takP q q').length := List.length_pos_iff.mpr z
      rw [e] at h1; omega
  have eq : q = q' := ev_inj tq tq' fun x => by
    have := ev_takP (l := q) (m := q') (x := x)
    rw [hq] at this
    have this : (0 : Rat) = ev q x - ev q' x := this
    grind
  refine ⟨eq, ev_inj tr tr' fun x => ?_⟩
  have := h x
  rw [eq] at this; grind
/-! ### sizes in division -/
theorem ld_of {m : List Rat} {E : Nat} {b : Int} (hb : ld m * (E : Rat) = (b : Rat)) (h0 : ld m ≠ 0) (hE : 0 < E) : b ≠ 0 := fun z => by
  rw [z, Rat.intCast_zero] at hb
  rcases Rat.mul_eq_zero.mp hb with e | e
  · exact h0 e
  · exact natCast_ne hE e
/-- over a whole number, of any sign -/
def Cz (D : Int) (M : Nat) (l : List Rat) : Prop := ∀ k, ∃ n : Int, co l k * (D : Rat) = (n : Rat) ∧ n.natAbs < 2 ^ M
theorem Cm.cz {D M : Nat} {l : List Rat} (h : Cm D M l) : Cz D M l := fun k => by
  obtain ⟨n, e, b⟩ := h.co k
  exact ⟨n, by rw [Rat.intCast_natCast]; exact e, b⟩
theorem intCast_ne {D : Int} (h : D ≠ 0) : (D : Rat) ≠ 0 := fun z => h (Rat.intCast_eq_zero_iff.mp z)
theorem Cz.bl {D : Int} {M d : Nat} {l : List Rat} (h : Cz D M l) (h0 : D ≠ 0) (hd : D.natAbs < 2 ^ d) (hp : 0 < d) : ∀ a ∈ l, Bd (d + M) a := fun a ha => by
  obtain ⟨k, rfl⟩ := mem_co ha
  obtain ⟨n, e, hn⟩ := h k
  have e2 : co l k = Rat.divInt n D := by
    have := intCast_ne h0
    rw [Rat.divInt_eq_div]; grind
  rw [e2]
  exact .divInt (by omega) (pow_up hn (by omega)) (pow_up hd (by omega))
theorem cz_stp {D b : Int} {E M Mb : Nat} {m r : List Rat} (hr : Cz D M r) (hm : Cm E Mb m) (hE : 0 < E) (h0 : ld m ≠ 0) (hb : ld m * (E : Rat) = (b : Rat)) (bb : b.natAbs < 2 ^ Mb) : Cz (D * b) (M + Mb + 1) (stp m r) := fun k => by
  have hE' := natCast_ne hE
  obtain ⟨n, e1, b1⟩ := hr k
  obtain ⟨nl, e2, b2⟩ := hr (r.length - 1)
  obtain ⟨c, e3, b3⟩ : ∃ c : Int, co (prt m r) k * ld m * (E : Rat) = (c : Rat) * ld r ∧ c.natAbs < 2 ^ Mb := by
    rw [co_prt]
    split
    · exact ⟨0, by rw [Rat.intCast_zero]; grind, Nat.pow_pos (by decide)⟩
    · obtain ⟨c, ec, bc⟩ := hm.co (k - (r.length - m.length))
      refine ⟨c, ?_, bc⟩
      rw [← ec]; grind
  have e2 : ld r * (D : Rat) = (nl : Rat) := e2
  refine ⟨n * b - c * nl, ?_, ?_⟩
  · rw [co_stp, Rat.intCast_mul, Rat.intCast_sub, Rat.intCast_mul, Rat.intCast_mul, ← e1, ← hb, ← e2]
    have e4 : co (prt m r) k * (ld m * (E : Rat)) = (c : Rat) * ld r := by rw [← e3]; grind
    grind
  · refine natAbs_sub_lt ?_ ?_
    · rw [Int.natAbs_mul]; exact lt_mul b1 bb
    · rw [Int.natAbs_mul, Nat.add_comm]; exact lt_mul b3 b2
theorem cz_rch {D b : Int} {E M Mb : Nat} {m l r : List Rat} {t : Nat} (hl : Cz D M l) (hm : Cm E Mb m) (hE : 0 < E) (h0 : ld m ≠ 0) (hb : ld m * (E : Rat) = (b : Rat)) (bb : b.natAbs < 2 ^ Mb) (h : Rch m l t r) : Cz (D * b ^ t) (M + t * (Mb + 1)) r := by
  induction h with
  | z => simpa using hl
  | s h hl' ih =>
    rename_i t r
    have := cz_stp ih hm hE h0 hb bb
    rw [Int.pow_succ, ← Int.mul_assoc, Nat.succ_mul]
    exact fun k => by
      obtain ⟨n, e, bn⟩ := this k
      exact ⟨n, e, pow_up bn (by omega)⟩
theorem natAbs_pow_lt {b : Int} {j : Nat} (h : b.natAbs < 2 ^ j) (i : Nat) : (b ^ i).natAbs < 2 ^ (i * j + 1) := by
  rw [Int.natAbs_pow]; exact pow_den h i
/-- the sizes of all that is reached -/
theorem rch_bl {K L : Nat} {m l : List Rat} (bl : ∀ a ∈ l, Bd L a) (bm : ∀ a ∈ m, Bd K a) (tm : Trim m) (hm : m ≠ []) {t : Nat} {r : List Rat} (h : Rch m l t r) : ∀ a ∈ r, Bd (2 * (l.length * L) + 2 * t * (m.length * K + 2) + 4) a := by
  obtain ⟨D, d0, d1, d2⟩ := cm_of l bl
  obtain ⟨E, e0, e1, e2⟩ := cm_of m bm
  have h0 : ld m ≠ 0 := tm.top hm
  obtain ⟨b, hb, bb⟩ := e2.co (m.length - 1)
  have hb0 : b ≠ 0 := ld_of hb h0 e0
  have c := cz_rch (D := D) d2.cz e2 e0 h0 hb bb h
  have hD : ((D : Int) * b ^ t).natAbs < 2 ^ (l.length * L + 1 + (t * (m.length * K + 1) + 1)) := by
    rw [Int.natAbs_mul, Int.natAbs_natCast]
    exact lt_mul d1 (natAbs_pow_lt bb t)
  intro a ha
  have hn : (D : Int) * b ^ t ≠ 0 := Int.mul_ne_zero (by omega) (Int.pow_ne_zero hb0)
  refine (c.bl hn hD (by omega) a ha).mono ?_
  have e1 : 2 * t * (m.length * K + 2) = t * (m.length * K + 1) + t * (m.length * K + 1 + 1) + t := by
    rw [Nat.mul_assoc, Nat.two_mul]
    have : t * (m.length * K + 2) = t * (m.length * K + 1) + t := by rw [← Nat.mul_succ]
    have : t * (m.length * K + 1 + 1) = t * (m.length * K + 2) := rfl
    omega
  omega
theorem ev_zeros {x : Rat} : ∀ {l : List Rat}, (∀ a ∈ l, a = 0) → ev l x = 0
  | [], _ => rfl
  | a :: l, h => by
    rw [ev_cons, h a List.mem_cons_self, ev_zeros fun b hb => h b (List.mem_cons_of_mem _ hb)]; grind
theorem ev_ext {l m : List Rat} (h : ∀ k, co l k = co m k) (x : Rat) : ev l x = ev m x := by
  have hz : ∀ a ∈ addR l (sclR (-1) m), a = 0 := fun a ha => by
    obtain ⟨k, rfl⟩ := mem_co ha
    rw [addR_co, co_scl, h k]; grind
  have := ev_zeros (x := x) hz
  rw [ev_addR, ev_scl] at this
  grind
/-! ### slopes of moved and stretched ones; how many places -/
theorem dv_mov {c x : Rat} : ∀ l : List Rat, ev (dv (movP c l)) x = ev (dv l) (x - c)
  | [] => rfl
  | a :: l => by
    have ih := dv_mov (c := c) (x := x) l
    show ev (dv (trim (addR (trim (mulR (movP c l) [-c, 1])) (trim [a])))) x = _
    have e1 : ev (dv [-c, 1]) x = 1 := by
      rw [ev_dv_cons]
      show (1 + x * 0) + x * (ev (dv [1]) x) = 1
      rw [ev_dv_cons]
      show (1 + x * 0) + x * ((0 : Rat) + x * 0) = 1
      grind
    have e2 : ev (dv [a]) x = 0 := by
      rw [ev_dv_cons]
      show (0 : Rat) + x * 0 = 0
      grind
    have e3 : ev [-c, 1] x = x - c := by
      show -c + x * (1 + x * 0) = x - c
      grind
    rw [dv_trim, dv_addR, dv_trim, dv_trim, dv_mulR, ih, ev_mov, e1, e2, e3, ev_dv_cons]
    grind
theorem slp_mov {c : Rat} {l : List Rat} (h : Trim l) : slpR (movP c l) = movP c (slpR l) := ev_inj (Trim.slp .mov) .mov fun x => by
  rw [ev_slp, dv_mov, ev_mov, ev_slp]
theorem dv_str {k x : Rat} (hk : k ≠ 0) : ∀ (l : List Rat) (b : Rat), b ≠ 0 → ev (dv (strG k b l)) x = ev (dv l) (x / k) / (b * k)
  | [], b, _ => by show (0 : Rat) = 0 / (b * k); grind
  | a :: l, b, hb => by
    have hbk : b * k ≠ 0 := fun z => (Rat.mul_eq_zero.mp z).elim hb hk
    have ih := dv_str hk (x := x) l (b * k) hbk
    show ev (dv (a / b :: strG k (b * k) l)) x = _
    rw [ev_dv_cons, ev_dv_cons, ih, ev_str hk l _ hbk]
    grind
theorem slp_str {k : Rat} (hk : k ≠ 0) {l : List Rat} (h : Trim l) : slpR (strG k 1 l) = sclP (strG k 1 (slpR l)) (1 / k) := by
  have h1 : (1 : Rat) ≠ 0 := by decide
  refine ev_inj (Trim.slp (Trim.str hk h h1)) .sclP fun x => ?_
  rw [ev_slp, dv_str hk _ _ h1, ev_sclP, ev_str hk _ _ h1, ev_slp]
  grind
/-- how often it is nought -/
def noughts (t xs : List Rat) : Nat := (xs.filter fun x => decide (ev t x = 0)).length
theorem noughts_le {t xs : List Rat} (ht : Trim t) (h0 : t ≠ []) (nd : xs.Nodup) : noughts t xs ≤ t.length - 1 := by
  have : ¬ t.length ≤ noughts t xs := fun h => h0 (ht.not_zero (roots_zero (xs.filter fun x => decide (ev t x = 0)) t (nd.filter _) h fun r hr => of_decide_eq_true (List.mem_filter.mp hr).2))
  have : 0 < t.length := List.length_pos_iff.mpr h0
  omega
theorem noughts_nil {xs : List Rat} : noughts [] xs = xs.length := by
  unfold noughts
  congr 1
  exact List.filter_eq_self.mpr fun x _ => decide_eq_true rfl
theorem noughts_snoc {t xs : List Rat} {x : Rat} : noughts t (xs ++ [x]) = noughts t xs + (if ev t x = 0 then 1 else 0) := by
  unfold noughts
  rw [List.filter_append, List.length_append]
  congr 1
  by_cases h : ev t x = 0
  · rw [if_pos h]; simp [h]
  · rw [if_neg h]; simp [h]
end G

set_option linter.all false
set_option maxHeartbeats 1000000
set_option maxRecDepth 10000
/-! F9: curves divided. -/
namespace G
open PySem
local macro_rules | `(tactic| walk_at "ev") => `(tactic| simp only [vl_nm, vl_bor, vl_cst, vl_bin, vl_neg, vl_cmp, vl_isn, vl_chn, vl_inn, vl_and, vl_or, vl_not, vl_ifx, vl_ix, vl_slc, vl_rev, vl_tup, vl_lst, vl_call, vl_blt, vl_isi, vl_lc, ev_nm, ev_cst, ev_bin, ev_neg, ev_cmp, ev_isn, ev_chn, ev_inn, ev_and, ev_or, ev_not, ev_ifx, ev_ix, ev_slc, ev_rev, ev_tup, ev_lst, ev_call, ev_blt, ev_isi, ev_lc, evEs_nil, evEs_cons, evAs_nil, evAs_cons, evO_none, evO_some, evC_none, evC_some, evIt_val, evIt_rng1, evIt_rng2, evIt_rvd, evT_vl, andR_t, andR_f, orR_f, orR_t, ifxR_t, ifxR_f, chnR_t, chnR_f, ss_nil', ss_cons', thn_nx, thn_ret, thn_exc, thn_bad, s_set', set_ok, set_exc, s_unp', unp_ok, s_ifs', if_t, if_f, s_for', for_ok, s_whl', s_ret', s_retn', s_pass', s_rse', s_exp', s_try', try_nx, try_ret, try_exc, s_par', s_par3', s_six', s_app', s_pop', s_popu', s_rev', rO_ok, rO_exc, ret_nm, ret_bor, ret_cst, ret_bin, ret_neg, ret_cmp, ret_isn, ret_chn, ret_inn, ret_and, ret_or, ret_not, ret_ifx, ret_ix, ret_slc, ret_rev, ret_tup, ret_lst, ret_call, ret_blt, ret_isi, ret_lc, fin_nx, fin_ret, fin_exc, b_add, b_sub, b_mul, b_fdiv, b_mod, p11, p12, p30, p42, p57, p59, b_addL, b_addT, b_mulL, c_lt, c_le, c_gt, c_ge, truth_bl, toI_int, toB_bl, items_lst, items_tup, len_lst, len_tup, len_scr, abs_int, int_int, int_bl, list_lst, list_tup, list_scr, tuple_lst, tuple_tup, max_int, min_int, ix_p0, ix_p1, c_eqI, c_neI, startE, frzE, frzI, frzAll, frz, kept, keptL, keptO, keptI, put, look, lookF, ownL_s, ownS_lst, evCall, lent, borI, bind_one, bind_tup, putAll, isLst_int, isLst_bl, isLst_str, isLst_tup, isLst_non, isLst_scr, isLst_exc, isLst_lst, isNon_int, isNon_bl, isNon_str, isNon_tup, isNon_non, isNon_scr, isNon_exc, isNon_lst, R.bind_ok, R.bind_exc, R.map_ok, R.map_exc, List.map_cons, List.map_nil, List.length_cons, List.length_nil, List.replicate, List.cons_append, List.nil_append, List.append_nil, List.getElem?_cons_zero, List.getElem?_cons_succ, List.set_cons_zero, List.set_cons_succ, Bool.false_and, Bool.true_and, Bool.and_true, Bool.and_false, Bool.or_false, Bool.false_or, Bool.or_true, Bool.true_or, Bool.not_true, Bool.not_false, decide_true, decide_false, if_true, if_false, ite_true, ite_false, reduceCtorEq, reduceIte, Nat.reduceAdd, Nat.reduceSub, Nat.reduceMul, Nat.reduceEqDiff, Int.reduceEq, Int.reduceLT, Int.reduceLE, Int.reduceNe, Int.reduceNeg, Int.reduceAdd, Int.reduceMul, Int.reduceSub, Nat.reduceLT, Nat.reduceLeDiff, Int.reduceGT, Int.reduceGE, is_tup_tuple, is_tup_list, is_tup_int, is_tup_bool, is_tup_str, is_lst_tuple, is_lst_list, is_lst_int, is_lst_bool, is_lst_str, is_int_tuple, is_int_list, is_int_int, is_int_bool, is_int_str, is_bl_tuple, is_bl_list, is_bl_int, is_bl_bool, is_bl_str, is_str_tuple, is_str_list, is_str_int, is_str_bool, is_str_str, is_non_tuple, is_non_list, is_non_int, is_non_bool, is_non_str, forS_ok, forB_nx, forB_ret, forL_nil, lc_nil, Int.cast_ofNat_Int, lc_cons, vlE_d, lenOk0, lenOk1, lenOk2, lenOk3, wipe1, wipe2, R.noexc_ok, decide_eq_true_eq, eq_self, ix_nv0, ix_nv1, is_nv_tuple, is_cv_tuple, is_lv_list, is_lv_tuple, is_cv_list, isLst_nv, isLst_cv, isLst_lv, isNon_nv, isNon_cv, isNon_lv, bind_nv, items_cv, items_lv, len_cv, len_lv, list_cv, list_lv, tuple_cv, tuple_lv, c_eqN, c_neN, c_eqC, c_neC, c_eqL, c_neL, nv01, nv11, cv_nil, cv_one, rev_lv, rev_cv, lv_one, lv_map, cv_map, lenOk_map, List.length_map, ownS_lv, back_bl, back_int, back_nv, back_cv, back_lv, c_eqB, c_neB])
local macro_rules | `(tactic| walk_at "evh") => `(tactic| simp only [vl_nm, vl_bor, vl_cst, vl_bin, vl_neg, vl_cmp, vl_isn, vl_chn, vl_inn, vl_and, vl_or, vl_not, vl_ifx, vl_ix, vl_slc, vl_rev, vl_tup, vl_lst, vl_call, vl_blt, vl_isi, vl_lc, ev_nm, ev_cst, ev_bin, ev_neg, ev_cmp, ev_isn, ev_chn, ev_inn, ev_and, ev_or, ev_not, ev_ifx, ev_ix, ev_slc, ev_rev, ev_tup, ev_lst, ev_call, ev_blt, ev_isi, ev_lc, evEs_nil, evEs_cons, evAs_nil, evAs_cons, evO_none, evO_some, evC_none, evC_some, evIt_val, evIt_rng1, evIt_rng2, evIt_rvd, evT_vl, andR_t, andR_f, orR_f, orR_t, ifxR_t, ifxR_f, chnR_t, chnR_f, ss_nil', ss_cons', thn_nx, thn_ret, thn_exc, thn_bad, s_set', set_ok, set_exc, s_unp', unp_ok, s_ifs', if_t, if_f, s_for', for_ok, s_whl', s_ret', s_retn', s_pass', s_rse', s_exp', s_try', try_nx, try_ret, try_exc, s_par', s_par3', s_six', s_app', s_pop', s_popu', s_rev', rO_ok, rO_exc, ret_nm, ret_bor, ret_cst, ret_bin, ret_neg, ret_cmp, ret_isn, ret_chn, ret_inn, ret_and, ret_or, ret_not, ret_ifx, ret_ix, ret_slc, ret_rev, ret_tup, ret_lst, ret_call, ret_blt, ret_isi, ret_lc, fin_nx, fin_ret, fin_exc, b_add, b_sub, b_mul, b_fdiv, b_mod, p11, p12, p30, p42, p57, p59, b_addL, b_addT, b_mulL, c_lt, c_le, c_gt, c_ge, truth_bl, toI_int, toB_bl, items_lst, items_tup, len_lst, len_tup, len_scr, abs_int, int_int, int_bl, list_lst, list_tup, list_scr, tuple_lst, tuple_tup, max_int, min_int, ix_p0, ix_p1, c_eqI, c_neI, startE, frzE, frzI, frzAll, frz, kept, keptL, keptO, keptI, put, look, lookF, ownL_s, ownS_lst, evCall, lent, borI, bind_one, bind_tup, putAll, isLst_int, isLst_bl, isLst_str, isLst_tup, isLst_non, isLst_scr, isLst_exc, isLst_lst, isNon_int, isNon_bl, isNon_str, isNon_tup, isNon_non, isNon_scr, isNon_exc, isNon_lst, R.bind_ok, R.bind_exc, R.map_ok, R.map_exc, List.map_cons, List.map_nil, List.length_cons, List.length_nil, List.replicate, List.cons_append, List.nil_append, List.append_nil, List.getElem?_cons_zero, List.getElem?_cons_succ, List.set_cons_zero, List.set_cons_succ, Bool.false_and, Bool.true_and, Bool.and_true, Bool.and_false, Bool.or_false, Bool.false_or, Bool.or_true, Bool.true_or, Bool.not_true, Bool.not_false, decide_true, decide_false, if_true, if_false, ite_true, ite_false, reduceCtorEq, reduceIte, Nat.reduceAdd, Nat.reduceSub, Nat.reduceMul, Nat.reduceEqDiff, Int.reduceEq, Int.reduceLT, Int.reduceLE, Int.reduceNe, Int.reduceNeg, Int.reduceAdd, Int.reduceMul, Int.reduceSub, Nat.reduceLT, Nat.reduceLeDiff, Int.reduceGT, Int.reduceGE, is_tup_tuple, is_tup_list, is_tup_int, is_tup_bool, is_tup_str, is_lst_tuple, is_lst_list, is_lst_int, is_lst_bool, is_lst_str, is_int_tuple, is_int_list, is_int_int, is_int_bool, is_int_str, is_bl_tuple, is_bl_list, is_bl_int, is_bl_bool, is_bl_str, is_str_tuple, is_str_list, is_str_int, is_str_bool, is_str_str, is_non_tuple, is_non_list, is_non_int, is_non_bool, is_non_str, forS_ok, forB_nx, forB_ret, forL_nil, lc_nil, Int.cast_ofNat_Int, lc_cons, vlE_d, lenOk0, lenOk1, lenOk2, lenOk3, wipe1, wipe2, R.noexc_ok, decide_eq_true_eq, eq_self, ix_nv0, ix_nv1, is_nv_tuple, is_cv_tuple, is_lv_list, is_lv_tuple, is_cv_list, isLst_nv, isLst_cv, isLst_lv, isNon_nv, isNon_cv, isNon_lv, bind_nv, items_cv, items_lv, len_cv, len_lv, list_cv, list_lv, tuple_cv, tuple_lv, c_eqN, c_neN, c_eqC, c_neC, c_eqL, c_neL, nv01, nv11, cv_nil, cv_one, rev_lv, rev_cv, lv_one, lv_map, cv_map, lenOk_map, List.length_map, ownS_lv, back_bl, back_int, back_nv, back_cv, back_lv, c_eqB, c_neB, *])
def fd_divided : FD := ⟨2, 7, [.ifs (.cmp .eq (.bor 1) (.tup [])) [.rse 2] [], .set 2 (.bin .mul (.lst [(.cst (.tup [(.int 0), (.int 1)]))]) (.blt .max2 [(.cst (.int 0)), (.bin .add (.bin .sub (.blt .len [(.bor 0)]) (.blt .len [(.bor 1)])) (.cst (.int 1)))])), .set 3 (.nm 0), .whl (.cmp .ge (.blt .len [(.bor 3)]) (.blt .len [(.bor 1)])) [.set 4 (.bin .sub (.blt .len [(.bor 3)]) (.blt .len [(.bor 1)])), .six 2 (.bor 4) (.call 7 [(.ix (.bor 3) (.neg (.cst (.int 1)))), (.ix (.bor 1) (.neg (.cst (.int 1))))]), .set 5 (.bin .add (.bin .mul (.lst [(.cst (.tup [(.int 0), (.int 1)]))]) (.bor 4)) (.lc (.one 6) (.val (.bor 1)) none (.call 6 [(.nm 6), (.ix (.bor 2) (.bor 4))]))), .set 3 (.call 14 [(.nm 3), (.blt .tuple [(.bor 5)])])], .ret (.tup [(.blt .tuple [(.bor 2)]), (.nm 3)])]⟩
def divC : E := .cmp .ge (.blt .len [(.bor 3)]) (.blt .len [(.bor 1)])
def divB : List S := [.set 4 (.bin .sub (.blt .len [(.bor 3)]) (.blt .len [(.bor 1)])), .six 2 (.bor 4) (.call 7 [(.ix (.bor 3) (.neg (.cst (.int 1)))), (.ix (.bor 1) (.neg (.cst (.int 1))))]), .set 5 (.bin .add (.bin .mul (.lst [(.cst (.tup [(.int 0), (.int 1)]))]) (.bor 4)) (.lc (.one 6) (.val (.bor 1)) none (.call 6 [(.nm 6), (.ix (.bor 2) (.bor 4))]))), .set 3 (.call 14 [(.nm 3), (.blt .tuple [(.bor 5)])])]
theorem ix_ld {l : List Rat} (h : l ≠ []) : evIx (cv l) (.int (-1)) = .ok (nv (ld l)) := by
  rcases List.eq_nil_or_concat l with rfl | ⟨t, a, rfl⟩
  · exact absurd rfl h
  · rw [List.concat_eq_append]
    have e : ld (t ++ [a]) = a := by unfold ld co; rw [List.getD_eq_getElem?_getD]; simp
    rw [e]; exact ix_last (.inr rfl)
theorem Bd.ld {n : Nat} {l : List Rat} (h : BL (n + 1) l) : Bd (n + 1) (ld l) := h.co _
section
variable {FT : Nat → Option FD} (h0 : FT 0 = some fd_divisor_of) (h1 : FT 1 = some fd_number) (h4 : FT 4 = some fd_plus) (h6 : FT 6 = some fd_times) (h7 : FT 7 = some fd_over) (h8 : FT 8 = some fd_without_noughts) (h11 : FT 11 = some fd_at_power) (h12 : FT 12 = some fd_scaled) (h13 : FT 13 = some fd_added) (h14 : FT 14 = some fd_taken)
include h0 h1 h4 h6 h7 h8 h11 h12 h13 h14
theorem div_step {n B : Nat} {x0 : Option (Val × Bool)} {m r Q : List Rat} {z4 z5 : Option (Val × Bool)} (hm : m ≠ []) (tm : Trim m) (hl : m.length ≤ r.length) (br : BL (B + 1) r) (bm : BL (B + 1) m) (hB : B ≤ 25000000) (hr : r.length ≤ 500) (hQ : r.length - m.length < Q.length) :
    evSs (callF FT (n + 5)) divB [x0, some (cv m, false), some (lv Q, true), some (cv r, false), z4, z5, none] =
      .nx [x0, some (cv m, false), some (lv (Q.set (r.length - m.length) (ld r / ld m)), true), some (cv (stp m r), false), some (.int ((r.length - m.length : Nat) : Int), false), some (lv (prt m r), true), none] := by
  have hr0 : r ≠ [] := fun z => by rw [z] at hl; exact hm (List.length_eq_zero_iff.mp (Nat.le_zero.mp hl))
  have hld : ld m ≠ 0 := tm.top hm
  have bq := (Bd.ld br).div (Bd.ld bm)
  have e1 := callF_over h0 h1 h7 (n := n + 2) hld (Bd.ld br) (Bd.ld bm) (by omega)
  have e2 := ix_ld hr0
  have e3 := ix_ld hm
  have es : (r.length : Int) - m.length = ((r.length - m.length : Nat) : Int) := by omega
  obtain ⟨i, hi⟩ : ∃ i, r.length - m.length = i := ⟨_, rfl⟩
  have hS : stp m r = takP r (prt m r) := rfl
  have hP : prt m r = List.replicate i 0 ++ m.map fun a => a * (ld r / ld m) := by rw [← hi]; rfl
  rw [hi] at es hQ ⊢
  generalize hq : ld r / ld m = q at *
  have hx : (Q.set i q)[i]? = some q := List.getElem?_set_self hQ
  have ei : evIx (lv (Q.set i q)) (.int (i : Int)) = .ok (nv q) := ix_lvN rfl hx
  have hix : L2.ixN ((Q.map nv).length) (i : Int) = some i := by
    unfold L2.ixN
    rw [List.length_map, if_pos (by omega), if_pos (by omega)]; simp
  have ep : ixPut (Q.map nv) (i : Int) (nv q) = .ok ((Q.set i q).map nv) := by
    unfold ixPut; rw [hix, List.map_set]
  have em : evBin .mul (lv [0]) (.int (i : Int)) = .ok (lv (List.replicate i 0)) := by
    rw [rep_lv (by omega) (by omega), Int.toNat_natCast]
  have ea : evBin .add (lv (List.replicate i 0)) (lv (m.map fun a => a * q)) = .ok (lv (prt m r)) := by
    rw [hP]; exact add_lv (by simp; omega)
  have elc : lcR (callF FT (n + 5)) (.ok (m.map nv)) (.one 6) none (.call 6 [(.nm 6), (.ix (.bor 2) (.bor 4))]) [x0, some (cv m, false), some (lv (Q.set i q), true), some (cv r, false), some (.int (i : Int), false), z5, none] = .ok (lv (m.map fun a => a * q)) := lcR_map (by omega) fun a ha => by
    have e := callF_times h0 h1 h6 (n := n + 2) (bm a ha) bq (by omega)
    clear br bm bq hP hS hm tm hl hr0 hr hix ep em ea e1 e2 e3 es hi hq hx
    walk_at "evh"
  have bp : BL (3 * B + 10 + 1) (prt m r) := fun a ha => by
    rw [hP] at ha
    rcases List.mem_append.mp ha with ha | ha
    · rw [(List.mem_replicate.mp ha).2]; exact Bd0
    · obtain ⟨c, hc, rfl⟩ := List.mem_map.mp ha
      exact ((bm c hc).mul bq).mono (by omega)
  have et := callF_taken h0 h1 h4 h6 h8 h11 h12 h13 h14 (n := n) (l := r) (m := prt m r) br bp (by omega) (by rw [prt_len hl]; omega) (by omega)
  rw [← hS] at et
  unfold divB
  clear br bm bq bp hP hS hm tm hl hr0 hr hix hi hq hx hld hQ
  walk_at "evh"
theorem dv_loop' {n B : Nat} {x0 : Option (Val × Bool)} {m l : List Rat} (hm : m ≠ []) (tm : Trim m) (bm : BL (B + 1) m) (hB : B ≤ 25000000) (hl : l.length ≤ 500) (hb : ∀ t r, Rch m l t r → BL (B + 1) r) : ∀ (w : Nat) (t : Nat) (r Q : List Rat) (z4 z5 : Option (Val × Bool)), r.length ≤ w → Rch m l t r → r.length + 1 ≤ m.length + Q.length → (∀ i, m.length + i ≤ r.length → co Q i = 0) → BL (2 * B + 3) Q →
    ∃ t' r' Q' y4 y5, whlO (callF FT (n + 5)) divC divB [x0, some (cv m, false), some (lv Q, true), some (cv r, false), z4, z5, none] = .nx [x0, some (cv m, false), some (lv Q', true), some (cv r', false), y4, y5, none] ∧ Rch m l t' r' ∧ r'.length < m.length ∧ Q'.length = Q.length ∧ BL (2 * B + 3) Q' ∧ (∀ x, ev Q' x * ev m x + ev r' x = ev Q x * ev m x + ev r x) ∧ (m.length ≤ r.length → ld r / ld m = co Q' (r.length - m.length)) ∧ (∀ i, r.length < m.length + i → co Q' i = co Q i) := fun w t r Q z4 z5 hw hR hQ hz hbQ => by
  have hr : r.length ≤ 500 := by have := hR.len hm tm; omega
  by_cases hlt : r.length < m.length
  · refine ⟨t, r, Q, z4, z5, whlO_f ?_, hR, hlt, rfl, hbQ, fun _ => rfl, fun h => by omega, fun _ _ => rfl⟩
    have hc : ¬ ((m.length : Int) ≤ r.length) := by omega
    unfold divC
    clear hb bm hbQ
    walk_at "evh"
  · have hle : m.length ≤ r.length := by omega
    have hmp : 0 < m.length := List.length_pos_iff.mpr hm
    cases w with
    | zero => omega
    | succ w =>
      have hs := stp_len hm tm hle
      have br := hb t r hR
      obtain ⟨i, hi⟩ : ∃ i, r.length - m.length = i := ⟨_, rfl⟩
      have bq := (Bd.ld br).div (Bd.ld bm)
      have c0 : co Q i = 0 := hz i (by omega)
      obtain ⟨t', r', Q', y4, y5, g1, g2, g3, g4, g5, g6, g7, g8⟩ := dv_loop' (n := n) (x0 := x0) hm tm bm hB hl hb w (t + 1) (stp m r) (Q.set i (ld r / ld m)) (some (.int ((r.length - m.length : Nat) : Int), false)) (some (lv (prt m r), true)) (by omega) (.s hR hle) (by rw [List.length_set]; omega) (fun k hk => by
        rw [co_set_ne (by omega)]; exact hz k (by omega)) (fun q hq => by
        obtain ⟨k, rfl⟩ := mem_co hq
        by_cases hk : k = i
        · subst hk
          rw [co_set_self (by omega)]; exact bq.mono (by omega)
        · rw [co_set_ne hk]; exact BL.co (n := 2 * B + 2) hbQ k)
      refine ⟨t', r', Q', y4, y5, ?_, g2, g3, by rw [g4, List.length_set], g5, fun x => ?_, fun _ => ?_, fun k hk => ?_⟩
      · rw [← g1]
        refine whlO_t ?_ (by rw [div_step h0 h1 h4 h6 h7 h8 h11 h12 h13 h14 hm tm hle br bm hB hr (by omega), hi])
        have hc : ((m.length : Int) ≤ r.length) := by omega
        unfold divC
        clear g1 g2 g3 g4 g5 g6 g7 g8 hb br bm bq hbQ
        walk_at "evh"
      · rw [g6, ev_stp, hi]
        have := ev_set (x := x) (v := ld r / ld m) Q i (by omega)
        rw [c0] at this
        have e0 : (0 : Rat) + ld r / ld m = ld r / ld m := by grind
        rw [e0] at this
        rw [this]; grind
      · rw [hi, g8 i (by omega), co_set_self (by omega)]
      · rw [g8 k (by omega), co_set_ne (by omega)]
theorem callF_divided (h20 : FT 20 = some fd_divided) {n B : Nat} {m l : List Rat} (hm : m ≠ []) (tm : Trim m) (tl : Trim l) (bm : BL (B + 1) m) (hB : B ≤ 25000000) (hl : l.length ≤ 500) (hml : m.length ≤ 500) (hb : ∀ t r, Rch m l t r → BL (B + 1) r) :
    ∃ Q r t, callF FT (n + 6) 20 [cv l, cv m] = .ok (.tup [cv Q, cv r], false) ∧ Rch m l t r ∧ Trim Q ∧ Trim r ∧ r.length < m.length ∧ (∀ x, ev l x = ev Q x * ev m x + ev r x) ∧ BL (2 * B + 3) Q ∧ Q.length = l.length + 1 - m.length := by
  have hmp : 0 < m.length := List.length_pos_iff.mpr hm
  obtain ⟨N, hN⟩ : ∃ N, l.length + 1 - m.length = N := ⟨_, rfl⟩
  have c0 : ∀ i, co (List.replicate N (0 : Rat)) i = 0 := fun i => by
    unfold co; rw [List.getD_eq_getElem?_getD, List.getElem?_replicate]; split <;> rfl
  obtain ⟨t', r', Q', y4, y5, g1, g2, g3, g4, g5, g6, g7, g8⟩ := dv_loop' h0 h1 h4 h6 h7 h8 h11 h12 h13 h14 (n := n) (x0 := some (cv l, false)) hm tm bm hB hl hb l.length 0 l (List.replicate N 0) none none (Nat.le_refl _) .z (by rw [List.length_replicate]; omega) (fun i _ => c0 i) (fun q hq => by rw [(List.mem_replicate.mp hq).2]; exact Bd.mono (m := 1) ⟨by decide, by decide⟩ (by omega))
  rw [List.length_replicate] at g4
  refine ⟨Q', r', t', ?_, g2, ?_, g2.trim tl, g3, fun x => ?_, g5, by rw [g4, hN]⟩
  · rw [callF_s h20 rfl]
    have ex : (if (l.length : Int) - m.length + 1 > 0 then (l.length : Int) - m.length + 1 else 0) = (N : Int) := by split <;> omega
    have em : evBin .mul (lv [0]) (.int (if (l.length : Int) - m.length + 1 > 0 then (l.length : Int) - m.length + 1 else 0)) = .ok (lv (List.replicate N 0)) := by
      rw [ex, rep_lv (by omega) (by omega), Int.toNat_natCast]
    have hd : decide (m = []) = false := decide_eq_false hm
    have eb : fd_divided.body = [.ifs (.cmp .eq (.bor 1) (.tup [])) [.rse 2] [], .set 2 (.bin .mul (.lst [(.cst (.tup [(.int 0), (.int 1)]))]) (.blt .max2 [(.cst (.int 0)), (.bin .add (.bin .sub (.blt .len [(.bor 0)]) (.blt .len [(.bor 1)])) (.cst (.int 1)))])), .set 3 (.nm 0), .whl divC divB, .ret (.tup [(.blt .tuple [(.bor 2)]), (.nm 3)])] := rfl
    rw [eb, show fd_divided.nl = 7 from rfl]
    have ek : kept divC = [] := rfl
    clear eb g2 g3 g4 g5 g6 g7 g8 c0 ex hb bm tm tl hm hB
    walk_at "evh"
  · by_cases hle : m.length ≤ l.length
    · refine Trim.of_top ?_
      rw [g4]
      have e : N - 1 = l.length - m.length := by omega
      rw [e, ← g7 hle]
      have hl0 : l ≠ [] := fun z => by rw [z] at hle; exact hm (List.length_eq_zero_iff.mp (Nat.le_zero.mp hle))
      have a1 : ld l ≠ 0 := tl.top hl0
      have a2 : ld m ≠ 0 := tm.top hm
      intro z
      apply a1
      have : ld l = ld l / ld m * ld m := by grind
      rw [this, z]; grind
    · have : Q' = [] := List.length_eq_zero_iff.mp (by omega)
      rw [this]; rfl
  · have := g6 x
    rw [ev_rep] at this
    grind
omit h0 h1 h4 h6 h7 h8 h11 h12 h13 h14 in
theorem callF_dividedX (h20 : FT 20 = some fd_divided) {n : Nat} {l : List Rat} : callF FT (n + 1) 20 [cv l, cv []] = .exc 2 := by
  rw [callF_s h20 rfl]
  have hd : decide (([] : List Rat) = []) = true := rfl
  unfold fd_divided
  walk_at "evh"
end
end G

set_option linter.all false
set_option maxHeartbeats 1000000
/-! M5: numbers of ways to choose; mixing numbers. -/
namespace G
def ch : Nat → Nat → Nat
  | _, 0 => 1
  | 0, _ + 1 => 0
  | n + 1, k + 1 => ch n k + ch n (k + 1)
theorem ch_zero (n : Nat) : ch n 0 = 1 := by cases n <;> rfl
theorem ch_succ (n k : Nat) : ch (n + 1) (k + 1) = ch n k + ch n (k + 1) := rfl
theorem ch_out : ∀ {n k : Nat}, n < k → ch n k = 0
  | 0, k + 1, _ => rfl
  | n + 1, k + 1, h => by rw [ch_succ, ch_out (by omega), ch_out (by omega)]
theorem ch_self : ∀ n : Nat, ch n n = 1
  | 0 => rfl
  | n + 1 => by rw [ch_succ, ch_self n, ch_out (by omega)]
theorem ch_next : ∀ (n k : Nat), ch n (k + 1) * (k + 1) = ch n k * (n - k)
  | 0, k => by show 0 * (k + 1) = _ * (0 - k); simp
  | n + 1, 0 => by
    have := ch_next n 0
    rw [ch_succ, ch_zero, ch_zero] at *
    omega
  | n + 1, k + 1 => by
    have h1 := ch_next n k
    have h2 := ch_next n (k + 1)
    rw [ch_succ, ch_succ n k, Nat.add_mul, h2]
    by_cases hk : k + 1 ≤ n
    · have e1 : n + 1 - (k + 1) = n - k := by omega
      have e2 : n - (k + 1) + 1 = n - k := by omega
      rw [e1, Nat.add_mul, ← h1]
      have : ch n (k + 1) * (k + 1 + 1) = ch n (k + 1) * (k + 1) + ch n (k + 1) := by rw [Nat.mul_succ]
      have e3 : ch n (k + 1) * (n - k) = ch n (k + 1) * (n - (k + 1)) + ch n (k + 1) := by rw [← e2, Nat.mul_succ]
      omega
    · by_cases hk2 : k = n
      · subst hk2
        rw [ch_out (show k < k + 1 by omega)]; simp
      · rw [ch_out (show n < k + 1 by omega), ch_out (show n < k by omega)]; simp
theorem ch_pos : ∀ {n k : Nat}, k ≤ n → 0 < ch n k
  | n, 0, _ => by rw [ch_zero]; decide
  | n + 1, k + 1, h => by rw [ch_succ]; have := ch_pos (n := n) (k := k) (by omega); omega
theorem ch_le : ∀ (n k : Nat), ch n k ≤ 2 ^ n
  | _, 0 => by rw [ch_zero]; exact Nat.one_le_two_pow
  | 0, _ + 1 => Nat.zero_le _
  | n + 1, k + 1 => by
    rw [ch_succ, Nat.pow_succ]
    have := ch_le n k
    have := ch_le n (k + 1)
    omega
theorem nc0 : ((0 : Nat) : Rat) = 0 := rfl
theorem nc1 : ((1 : Nat) : Rat) = 1 := rfl
/-! ### sums -/
def sm (f : Nat → Rat) : Nat → Rat
  | 0 => 0
  | n + 1 => sm f n + f n
theorem sm_succ (f : Nat → Rat) (n : Nat) : sm f (n + 1) = sm f n + f n := rfl
theorem sm_ext {f g : Nat → Rat} : ∀ {n : Nat}, (∀ k < n, f k = g k) → sm f n = sm g n
  | 0, _ => rfl
  | n + 1, h => by rw [sm_succ, sm_succ, sm_ext fun k hk => h k (by omega), h n (by omega)]
theorem sm_add {f g : Nat → Rat} : ∀ {n : Nat}, sm (fun k => f k + g k) n = sm f n + sm g n
  | 0 => by show (0 : Rat) = 0 + 0; grind
  | n + 1 => by rw [sm_succ, sm_succ, sm_succ, sm_add]; grind
theorem sm_mul {f : Nat → Rat} {c : Rat} : ∀ {n : Nat}, sm (fun k => c * f k) n = c * sm f n
  | 0 => by show (0 : Rat) = c * 0; grind
  | n + 1 => by rw [sm_succ, sm_succ, sm_mul]; grind
theorem sm_shift {f : Nat → Rat} : ∀ {n : Nat}, sm f (n + 1) = f 0 + sm (fun k => f (k + 1)) n
  | 0 => by show (0 : Rat) + f 0 = f 0 + 0; grind
  | n + 1 => by rw [sm_succ, sm_shift, sm_succ]; grind
theorem sm_zero {f : Nat → Rat} {n : Nat} (h : ∀ k < n, f k = 0) : sm f n = 0 := by
  induction n with
  | zero => rfl
  | succ n ih => rw [sm_succ, ih fun k hk => h k (by omega), h n (by omega)]; grind
/-! ### mixing -/
/-- halving in and in (at t) -/
def bn (t : Rat) : Nat → (Nat → Rat) → Rat
  | 0, b => b 0
  | n + 1, b => (1 - t) * bn t n b + t * bn t n (fun k => b (k + 1))
theorem bn_ext {t : Rat} : ∀ {n : Nat} {b c : Nat → Rat}, (∀ k ≤ n, b k = c k) → bn t n b = bn t n c
  | 0, b, c, h => h 0 (Nat.le_refl _)
  | n + 1, b, c, h => by
    show _ * _ + _ * _ = _ * _ + _ * _
    rw [bn_ext fun k hk => h k (by omega), bn_ext fun k hk => h (k + 1) (by omega)]
theorem bn_add {t : Rat} : ∀ {n : Nat} {b c : Nat → Rat}, bn t n (fun k => b k + c k) = bn t n b + bn t n c
  | 0, b, c => rfl
  | n + 1, b, c => by
    show (1 - t) * bn t n (fun k => b k + c k) + t * bn t n (fun k => b (k + 1) + c (k + 1)) = _
    rw [bn_add, bn_add (b := fun k => b (k + 1)) (c := fun k => c (k + 1))]
    show _ = ((1 - t) * bn t n b + t * bn t n (fun k => b (k + 1))) + ((1 - t) * bn t n c + t * bn t n (fun k => c (k + 1)))
    grind
theorem bn_mul {t a : Rat} : ∀ {n : Nat} {b : Nat → Rat}, bn t n (fun k => a * b k) = a * bn t n b
  | 0, b => rfl
  | n + 1, b => by
    show (1 - t) * bn t n (fun k => a * b k) + t * bn t n (fun k => a * b (k + 1)) = a * ((1 - t) * bn t n b + t * bn t n (fun k => b (k + 1)))
    rw [bn_mul, bn_mul (b := fun k => b (k + 1))]; grind
theorem bn_ch {t : Rat} : ∀ (n j : Nat), bn t n (fun k => (ch k j : Rat)) = (ch n j : Rat) * t ^ j
  | 0, 0 => by show ((1 : Nat) : Rat) = ((1 : Nat) : Rat) * t ^ 0; rw [Rat.pow_zero]; grind
  | 0, j + 1 => by show ((0 : Nat) : Rat) = ((0 : Nat) : Rat) * _; rw [nc0]; grind
  | n + 1, 0 => by
    have h := bn_ch (t := t) n 0
    show (1 - t) * bn t n (fun k => (ch k 0 : Rat)) + t * bn t n (fun k => (ch (k + 1) 0 : Rat)) = _
    have e : bn t n (fun k => (ch (k + 1) 0 : Rat)) = bn t n (fun k => (ch k 0 : Rat)) := bn_ext fun k _ => by rw [ch_zero, ch_zero]
    rw [e, h, ch_zero, ch_zero, Rat.pow_zero]; grind
  | n + 1, j + 1 => by
    have h1 := bn_ch (t := t) n (j + 1)
    have h2 := bn_ch (t := t) n j
    show (1 - t) * bn t n (fun k => (ch k (j + 1) : Rat)) + t * bn t n (fun k => (ch (k + 1) (j + 1) : Rat)) = _
    have e : bn t n (fun k => (ch (k + 1) (j + 1) : Rat)) = bn t n (fun k => (ch k j : Rat) + (ch k (j + 1) : Rat)) := bn_ext fun k _ => by rw [ch_succ, Rat.natCast_add]
    rw [e, bn_add, h1, h2, ch_succ, Rat.natCast_add, Rat.pow_succ]; grind
/-- the sum with the numbers of ways -/
def bsum (t : Rat) (n : Nat) (b : Nat → Rat) : Rat := sm (fun k => (ch n k : Rat) * b k * t ^ k * (1 - t) ^ (n - k)) (n + 1)
theorem bsum_bn {t : Rat} : ∀ (n : Nat) (b : Nat → Rat), bsum t n b = bn t n b
  | 0, b => by
    show 0 + ((1 : Nat) : Rat) * b 0 * t ^ 0 * (1 - t) ^ 0 = b 0
    rw [Rat.pow_zero, Rat.pow_zero, nc1]; grind
  | n + 1, b => by
    show _ = (1 - t) * bn t n b + t * bn t n (fun k => b (k + 1))
    rw [← bsum_bn n b, ← bsum_bn n (fun k => b (k + 1))]
    unfold bsum
    -- Pascal: split each term
    have hA : (1 - t) * sm (fun k => (ch n k : Rat) * b k * t ^ k * (1 - t) ^ (n - k)) (n + 1) = sm (fun k => (ch n k : Rat) * b k * t ^ k * (1 - t) ^ (n + 1 - k)) (n + 1) := by
      rw [← sm_mul]
      refine sm_ext fun k hk => ?_
      have : n + 1 - k = (n - k) + 1 := by omega
      rw [this, Rat.pow_succ]; grind
    have hB : t * sm (fun k => (ch n k : Rat) * b (k + 1) * t ^ k * (1 - t) ^ (n - k)) (n + 1) = sm (fun k => (ch n k : Rat) * b (k + 1) * t ^ (k + 1) * (1 - t) ^ (n - k)) (n + 1) := by
      rw [← sm_mul]
      refine sm_ext fun k hk => ?_
      rw [Rat.pow_succ]; grind
    rw [hA, hB, sm_shift (f := fun k => (ch (n + 1) k : Rat) * b k * t ^ k * (1 - t) ^ (n + 1 - k)) (n := n + 1), sm_shift (f := fun k => (ch n k : Rat) * b k * t ^ k * (1 - t) ^ (n + 1 - k)) (n := n)]
    have hC : sm (fun k => (ch (n + 1) (k + 1) : Rat) * b (k + 1) * t ^ (k + 1) * (1 - t) ^ (n + 1 - (k + 1))) (n + 1) = sm (fun k => (ch n k : Rat) * b (k + 1) * t ^ (k + 1) * (1 - t) ^ (n - k)) (n + 1) + sm (fun k => (ch n (k + 1) : Rat) * b (k + 1) * t ^ (k + 1) * (1 - t) ^ (n + 1 - (k + 1))) n := by
      have h1 : sm (fun k => (ch (n + 1) (k + 1) : Rat) * b (k + 1) * t ^ (k + 1) * (1 - t) ^ (n + 1 - (k + 1))) (n + 1) = sm (fun k => (ch n k : Rat) * b (k + 1) * t ^ (k + 1) * (1 - t) ^ (n - k) + (ch n (k + 1) : Rat) * b (k + 1) * t ^ (k + 1) * (1 - t) ^ (n + 1 - (k + 1))) (n + 1) := sm_ext fun k hk => by
        have : n + 1 - (k + 1) = n - k := by omega
        rw [ch_succ, Rat.natCast_add, this]; grind
      rw [h1, sm_add]
      congr 1
      rw [sm_succ, ch_out (show n < n + 1 by omega), nc0]; grind
    rw [hC, ch_zero, ch_zero]; grind
/-- the worth as a sum of powers -/
theorem ev_sm {x : Rat} : ∀ (l : List Rat), ev l x = sm (fun k => co l k * x ^ k) l.length
  | [] => rfl
  | a :: l => by
    rw [List.length_cons, sm_shift, ev_cons, ev_sm l, ← sm_mul]
    show a + _ = a * x ^ 0 + _
    rw [Rat.pow_zero]
    have : sm (fun k => x * (co l k * x ^ k)) l.length = sm (fun k => co (a :: l) (k + 1) * x ^ (k + 1)) l.length := sm_ext fun k _ => by
      have e : co (a :: l) (k + 1) = co l k := by unfold co; simp
      rw [e, Rat.pow_succ]; grind
    rw [this]; grind
theorem bn_sm {t : Rat} {n : Nat} {f : Nat → Nat → Rat} : ∀ m : Nat, bn t n (fun k => sm (fun j => f j k) m) = sm (fun j => bn t n (f j)) m
  | 0 => by
    have : bn t n (fun _ => (0 : Rat)) = 0 := by
      have := bn_mul (t := t) (a := 0) (n := n) (b := fun _ => 0)
      have e : bn t n (fun _ => (0 : Rat) * 0) = bn t n (fun _ => (0 : Rat)) := bn_ext fun _ _ => by grind
      rw [e] at this
      rw [this]; grind
    exact this
  | m + 1 => by
    show bn t n (fun k => sm (fun j => f j k) m + f m k) = sm (fun j => bn t n (f j)) m + bn t n (f m)
    rw [bn_add, bn_sm m]
/-- the mixing numbers of powers p -/
def mxn (p : List Rat) (n k : Nat) : Rat := sm (fun j => ((ch k j : Rat) / (ch n j : Rat)) * co p j) p.length
theorem mxn_bn {t : Rat} {p : List Rat} {n : Nat} (h : p.length ≤ n + 1) : bn t n (mxn p n) = ev p t := by
  unfold mxn
  rw [bn_sm, ev_sm]
  refine sm_ext fun j hj => ?_
  have hc : (ch n j : Rat) ≠ 0 := natCast_ne (ch_pos (by omega))
  have e : bn t n (fun k => (ch k j : Rat) / (ch n j : Rat) * co p j) = bn t n (fun k => (co p j / (ch n j : Rat)) * (ch k j : Rat)) := bn_ext fun k _ => by grind
  rw [e, bn_mul, bn_ch]; grind
end G

set_option linter.all false
set_option maxHeartbeats 1000000
set_option maxRecDepth 10000
/-! F10: mixing numbers. -/
namespace G
open PySem
local macro_rules | `(tactic| walk_at "ev") => `(tactic| simp only [vl_nm, vl_bor, vl_cst, vl_bin, vl_neg, vl_cmp, vl_isn, vl_chn, vl_inn, vl_and, vl_or, vl_not, vl_ifx, vl_ix, vl_slc, vl_rev, vl_tup, vl_lst, vl_call, vl_blt, vl_isi, vl_lc, ev_nm, ev_cst, ev_bin, ev_neg, ev_cmp, ev_isn, ev_chn, ev_inn, ev_and, ev_or, ev_not, ev_ifx, ev_ix, ev_slc, ev_rev, ev_tup, ev_lst, ev_call, ev_blt, ev_isi, ev_lc, evEs_nil, evEs_cons, evAs_nil, evAs_cons, evO_none, evO_some, evC_none, evC_some, evIt_val, evIt_rng1, evIt_rng2, evIt_rvd, evT_vl, andR_t, andR_f, orR_f, orR_t, ifxR_t, ifxR_f, chnR_t, chnR_f, ss_nil', ss_cons', thn_nx, thn_ret, thn_exc, thn_bad, s_set', set_ok, set_exc, s_unp', unp_ok, s_ifs', if_t, if_f, s_for', for_ok, s_whl', s_ret', s_retn', s_pass', s_rse', s_exp', s_try', try_nx, try_ret, try_exc, s_par', s_par3', s_six', s_app', s_pop', s_popu', s_rev', rO_ok, rO_exc, ret_nm, ret_bor, ret_cst, ret_bin, ret_neg, ret_cmp, ret_isn, ret_chn, ret_inn, ret_and, ret_or, ret_not, ret_ifx, ret_ix, ret_slc, ret_rev, ret_tup, ret_lst, ret_call, ret_blt, ret_isi, ret_lc, fin_nx, fin_ret, fin_exc, b_add, b_sub, b_mul, b_fdiv, b_mod, p11, p12, p30, p42, p57, p59, b_addL, b_addT, b_mulL, c_lt, c_le, c_gt, c_ge, truth_bl, toI_int, toB_bl, items_lst, items_tup, len_lst, len_tup, len_scr, abs_int, int_int, int_bl, list_lst, list_tup, list_scr, tuple_lst, tuple_tup, max_int, min_int, ix_p0, ix_p1, c_eqI, c_neI, startE, frzE, frzI, frzAll, frz, kept, keptL, keptO, keptI, put, look, lookF, ownL_s, ownS_lst, evCall, lent, borI, bind_one, bind_tup, putAll, isLst_int, isLst_bl, isLst_str, isLst_tup, isLst_non, isLst_scr, isLst_exc, isLst_lst, isNon_int, isNon_bl, isNon_str, isNon_tup, isNon_non, isNon_scr, isNon_exc, isNon_lst, R.bind_ok, R.bind_exc, R.map_ok, R.map_exc, List.map_cons, List.map_nil, List.length_cons, List.length_nil, List.replicate, List.cons_append, List.nil_append, List.append_nil, List.getElem?_cons_zero, List.getElem?_cons_succ, List.set_cons_zero, List.set_cons_succ, Bool.false_and, Bool.true_and, Bool.and_true, Bool.and_false, Bool.or_false, Bool.false_or, Bool.or_true, Bool.true_or, Bool.not_true, Bool.not_false, decide_true, decide_false, if_true, if_false, ite_true, ite_false, reduceCtorEq, reduceIte, Nat.reduceAdd, Nat.reduceSub, Nat.reduceMul, Nat.reduceEqDiff, Int.reduceEq, Int.reduceLT, Int.reduceLE, Int.reduceNe, Int.reduceNeg, Int.reduceAdd, Int.reduceMul, Int.reduceSub, Nat.reduceLT, Nat.reduceLeDiff, Int.reduceGT, Int.reduceGE, is_tup_tuple, is_tup_list, is_tup_int, is_tup_bool, is_tup_str, is_lst_tuple, is_lst_list, is_lst_int, is_lst_bool, is_lst_str, is_int_tuple, is_int_list, is_int_int, is_int_bool, is_int_str, is_bl_tuple, is_bl_list, is_bl_int, is_bl_bool, is_bl_str, is_str_tuple, is_str_list, is_str_int, is_str_bool, is_str_str, is_non_tuple, is_non_list, is_non_int, is_non_bool, is_non_str, forS_ok, forB_nx, forB_ret, forL_nil, lc_nil, Int.cast_ofNat_Int, lc_cons, vlE_d, lenOk0, lenOk1, lenOk2, lenOk3, wipe1, wipe2, R.noexc_ok, decide_eq_true_eq, eq_self, ix_nv0, ix_nv1, is_nv_tuple, is_cv_tuple, is_lv_list, is_lv_tuple, is_cv_list, isLst_nv, isLst_cv, isLst_lv, isNon_nv, isNon_cv, isNon_lv, bind_nv, items_cv, items_lv, len_cv, len_lv, list_cv, list_lv, tuple_cv, tuple_lv, c_eqN, c_neN, c_eqC, c_neC, c_eqL, c_neL, nv01, nv11, cv_nil, cv_one, rev_lv, rev_cv, lv_one, lv_map, cv_map, lenOk_map, List.length_map, ownS_lv, back_bl, back_int, back_nv, back_cv, back_lv, c_eqB, c_neB])
local macro_rules | `(tactic| walk_at "evh") => `(tactic| simp only [vl_nm, vl_bor, vl_cst, vl_bin, vl_neg, vl_cmp, vl_isn, vl_chn, vl_inn, vl_and, vl_or, vl_not, vl_ifx, vl_ix, vl_slc, vl_rev, vl_tup, vl_lst, vl_call, vl_blt, vl_isi, vl_lc, ev_nm, ev_cst, ev_bin, ev_neg, ev_cmp, ev_isn, ev_chn, ev_inn, ev_and, ev_or, ev_not, ev_ifx, ev_ix, ev_slc, ev_rev, ev_tup, ev_lst, ev_call, ev_blt, ev_isi, ev_lc, evEs_nil, evEs_cons, evAs_nil, evAs_cons, evO_none, evO_some, evC_none, evC_some, evIt_val, evIt_rng1, evIt_rng2, evIt_rvd, evT_vl, andR_t, andR_f, orR_f, orR_t, ifxR_t, ifxR_f, chnR_t, chnR_f, ss_nil', ss_cons', thn_nx, thn_ret, thn_exc, thn_bad, s_set', set_ok, set_exc, s_unp', unp_ok, s_ifs', if_t, if_f, s_for', for_ok, s_whl', s_ret', s_retn', s_pass', s_rse', s_exp', s_try', try_nx, try_ret, try_exc, s_par', s_par3', s_six', s_app', s_pop', s_popu', s_rev', rO_ok, rO_exc, ret_nm, ret_bor, ret_cst, ret_bin, ret_neg, ret_cmp, ret_isn, ret_chn, ret_inn, ret_and, ret_or, ret_not, ret_ifx, ret_ix, ret_slc, ret_rev, ret_tup, ret_lst, ret_call, ret_blt, ret_isi, ret_lc, fin_nx, fin_ret, fin_exc, b_add, b_sub, b_mul, b_fdiv, b_mod, p11, p12, p30, p42, p57, p59, b_addL, b_addT, b_mulL, c_lt, c_le, c_gt, c_ge, truth_bl, toI_int, toB_bl, items_lst, items_tup, len_lst, len_tup, len_scr, abs_int, int_int, int_bl, list_lst, list_tup, list_scr, tuple_lst, tuple_tup, max_int, min_int, ix_p0, ix_p1, c_eqI, c_neI, startE, frzE, frzI, frzAll, frz, kept, keptL, keptO, keptI, put, look, lookF, ownL_s, ownS_lst, evCall, lent, borI, bind_one, bind_tup, putAll, isLst_int, isLst_bl, isLst_str, isLst_tup, isLst_non, isLst_scr, isLst_exc, isLst_lst, isNon_int, isNon_bl, isNon_str, isNon_tup, isNon_non, isNon_scr, isNon_exc, isNon_lst, R.bind_ok, R.bind_exc, R.map_ok, R.map_exc, List.map_cons, List.map_nil, List.length_cons, List.length_nil, List.replicate, List.cons_append, List.nil_append, List.append_nil, List.getElem?_cons_zero, List.getElem?_cons_succ, List.set_cons_zero, List.set_cons_succ, Bool.false_and, Bool.true_and, Bool.and_true, Bool.and_false, Bool.or_false, Bool.false_or, Bool.or_true, Bool.true_or, Bool.not_true, Bool.not_false, decide_true, decide_false, if_true, if_false, ite_true, ite_false, reduceCtorEq, reduceIte, Nat.reduceAdd, Nat.reduceSub, Nat.reduceMul, Nat.reduceEqDiff, Int.reduceEq, Int.reduceLT, Int.reduceLE, Int.reduceNe, Int.reduceNeg, Int.reduceAdd, Int.reduceMul, Int.reduceSub, Nat.reduceLT, Nat.reduceLeDiff, Int.reduceGT, Int.reduceGE, is_tup_tuple, is_tup_list, is_tup_int, is_tup_bool, is_tup_str, is_lst_tuple, is_lst_list, is_lst_int, is_lst_bool, is_lst_str, is_int_tuple, is_int_list, is_int_int, is_int_bool, is_int_str, is_bl_tuple, is_bl_list, is_bl_int, is_bl_bool, is_bl_str, is_str_tuple, is_str_list, is_str_int, is_str_bool, is_str_str, is_non_tuple, is_non_list, is_non_int, is_non_bool, is_non_str, forS_ok, forB_nx, forB_ret, forL_nil, lc_nil, Int.cast_ofNat_Int, lc_cons, vlE_d, lenOk0, lenOk1, lenOk2, lenOk3, wipe1, wipe2, R.noexc_ok, decide_eq_true_eq, eq_self, ix_nv0, ix_nv1, is_nv_tuple, is_cv_tuple, is_lv_list, is_lv_tuple, is_cv_list, isLst_nv, isLst_cv, isLst_lv, isNon_nv, isNon_cv, isNon_lv, bind_nv, items_cv, items_lv, len_cv, len_lv, list_cv, list_lv, tuple_cv, tuple_lv, c_eqN, c_neN, c_eqC, c_neC, c_eqL, c_neL, nv01, nv11, cv_nil, cv_one, rev_lv, rev_cv, lv_one, lv_map, cv_map, lenOk_map, List.length_map, ownS_lv, back_bl, back_int, back_nv, back_cv, back_lv, c_eqB, c_neB, *])
def fd_ask_stretch : FD := ⟨2, 2, [.ifs (.not (.call 2 [(.bor 0), (.bor 1)])) [.rse 4] []]⟩
def fd_choose : FD := ⟨2, 4, [.set 2 (.cst (.int 1)), .for (.one 3) (.rng1 (.bor 1)) [.set 2 (.bin .fdiv (.bin .mul (.bor 2) (.bin .sub (.bor 0) (.bor 3))) (.bin .add (.bor 3) (.cst (.int 1))))], .ret (.nm 2)]⟩
def fd_of_whole : FD := ⟨1, 1, [.ret (.call 1 [(.nm 0), (.cst (.int 1))])]⟩
def fd_on_one : FD := ⟨3, 4, [.set 3 (.call 18 [(.nm 0), (.call 5 [(.call 27 [(.cst (.int 0))]), (.nm 1)])]), .ret (.blt .list [(.call 19 [(.nm 3), (.call 7 [(.call 27 [(.cst (.int 1))]), (.call 5 [(.nm 2), (.nm 1)])])])])]⟩
def fd_mixed : FD := ⟨4, 9, [.exp (.call 25 [(.nm 1), (.nm 2)]), .ifs (.or (.cmp .lt (.bor 3) (.cst (.int 0))) (.or (.cmp .lt (.bor 3) (.bin .sub (.blt .len [(.bor 0)]) (.cst (.int 1)))) (.cmp .gt (.bor 3) (.cst (.int 12))))) [.rse 3] [], .set 4 (.call 28 [(.nm 0), (.nm 1), (.nm 2)]), .set 5 (.lst []), .for (.one 6) (.rng1 (.bin .add (.bor 3) (.cst (.int 1)))) [.set 7 (.call 27 [(.cst (.int 0))]), .for (.one 8) (.rng1 (.blt .min2 [(.bin .add (.bor 6) (.cst (.int 1))), (.blt .len [(.bor 4)])])) [.set 7 (.call 4 [(.nm 7), (.call 6 [(.call 1 [(.call 26 [(.nm 6), (.nm 8)]), (.call 26 [(.nm 3), (.nm 8)])]), (.ix (.bor 4) (.bor 8))])])], .app 5 (.nm 7)], .ret (.nm 5)]⟩
def chB : List S := [.set 2 (.bin .fdiv (.bin .mul (.bor 2) (.bin .sub (.bor 0) (.bor 3))) (.bin .add (.bor 3) (.cst (.int 1))))]
def mxI : List S := [.set 7 (.call 4 [(.nm 7), (.call 6 [(.call 1 [(.call 26 [(.nm 6), (.nm 8)]), (.call 26 [(.nm 3), (.nm 8)])]), (.ix (.bor 4) (.bor 8))])])]
def mxO : List S := [.set 7 (.call 27 [(.cst (.int 0))]), .for (.one 8) (.rng1 (.blt .min2 [(.bin .add (.bor 6) (.cst (.int 1))), (.blt .len [(.bor 4)])])) mxI, .app 5 (.nm 7)]
section
variable {FT : Nat → Option FD}
theorem ch_bd {n k : Nat} (h : n ≤ 12) : ch n k < 2 ^ 13 := Nat.lt_of_le_of_lt (ch_le n k) (Nat.pow_lt_pow_right (by decide) (by omega))
theorem ch_loop {cl : Nat → List Val → R (Val × Bool)} {N : Nat} (hN : N ≤ 12) {x1 : Option (Val × Bool)} : ∀ (d j : Nat) (z : Option (Val × Bool)), j + d ≤ N →
    ∃ y, forL (.one 3) (fun env' => evSs cl chB env') (rngV j d) [some (.int N, false), x1, some (.int (ch N j), false), z] = .nx [some (.int N, false), x1, some (.int (ch N (j + d)), false), y]
  | 0, j, z, _ => ⟨z, rfl⟩
  | d + 1, j, z, h => by
    obtain ⟨y, e⟩ := ch_loop (cl := cl) hN (x1 := x1) d (j + 1) (some (.int j, false)) (by omega)
    refine ⟨y, ?_⟩
    have m : mulOk (ch N j) ((N : Int) - j) = true := mul_small (m := 13) (n := 13) (by rw [Int.natAbs_natCast]; exact ch_bd hN) (natAbs_lt_pow (by omega) (by omega)) (by decide)
    have hz : ¬ (j : Int) + 1 = 0 := by omega
    have hd : ((ch N j : Int) * ((N : Int) - j)).fdiv ((j : Int) + 1) = (ch N (j + 1) : Int) := by
      have h1 := ch_next N j
      have h2 : (ch N j : Int) * ((N : Int) - j) = (ch N (j + 1) : Int) * ((j : Int) + 1) := by
        have : ((N - j : Nat) : Int) = (N : Int) - j := by omega
        rw [← this]
        have h3 : ((ch N (j + 1) * (j + 1) : Nat) : Int) = ((ch N j * (N - j) : Nat) : Int) := by rw [h1]
        rw [Int.natCast_mul, Int.natCast_mul] at h3
        rw [← h3]; rfl
      rw [h2, Int.mul_fdiv_cancel _ (by omega)]
    have ej : j + 1 + d = j + (d + 1) := by omega
    rw [ej] at e
    rw [rngV_succ, show (j : Int) + 1 = ((j + 1 : Nat) : Int) by omega, ← e]
    refine forL_cons (env1 := [some (.int N, false), x1, some (.int (ch N j), false), some (.int j, false)]) rfl ?_
    unfold chB
    clear e ej hN h
    walk_at "evh"
theorem callF_choose (h26 : FT 26 = some fd_choose) {n N k : Nat} (hN : N ≤ 12) (hk : k ≤ N) : callF FT (n + 1) 26 [.int N, .int k] = .ok (.int (ch N k), false) := by
  rw [callF_s h26 rfl]
  obtain ⟨y, e⟩ := ch_loop (cl := callF FT n) hN (x1 := some (.int k, false)) k 0 none (by omega)
  rw [ch_zero, Nat.zero_add] at e
  have r : rngOk (k : Int) = true := rng_ok (by omega)
  have et : ((k : Int)).toNat = k := Int.toNat_natCast _
  have eb : fd_choose.body = [.set 2 (.cst (.int 1)), .for (.one 3) (.rng1 (.bor 1)) chB, .ret (.nm 2)] := rfl
  rw [eb, show fd_choose.nl = 4 from rfl]
  have e : forL (.one 3) (fun env' => evSs (callF FT n) chB env') (rngV 0 k) [some (.int N, false), some (.int k, false), some (.int 1, false), none] = _ := e
  clear eb hN hk
  walk_at "evh"
theorem divInt_one (z : Int) : Rat.divInt z 1 = (z : Rat) := by rw [Rat.divInt_eq_div]; grind
section
variable (h0 : FT 0 = some fd_divisor_of) (h1 : FT 1 = some fd_number)
include h0 h1
theorem callF_of_whole (h27 : FT 27 = some fd_of_whole) {n : Nat} {z : Int} : callF FT (n + 3) 27 [.int z] = .ok (nv (z : Rat), false) := by
  rw [callF_s h27 rfl]
  have e := callF_number h0 h1 (n := n) (t := z) (b := 1) (by decide)
  rw [divInt_one] at e
  unfold fd_of_whole
  walk_at "evh"
theorem callF_ask (h2 : FT 2 = some fd_less) (h25 : FT 25 = some fd_ask_stretch) {n i j : Nat} {p q : Rat} (hp : Bd i p) (hq : Bd j q) (hl : i + j < 134000000) (h : p < q) : callF FT (n + 2) 25 [nv p, nv q] = .ok (.non, false) := by
  rw [callF_s h25 rfl]
  have e := callF_less h2 (n := n) hp hq hl
  rw [decide_eq_true h] at e
  unfold fd_ask_stretch
  clear hp hq h
  walk_at "evh"
theorem callF_askX (h2 : FT 2 = some fd_less) (h25 : FT 25 = some fd_ask_stretch) {n i j : Nat} {p q : Rat} (hp : Bd i p) (hq : Bd j q) (hl : i + j < 134000000) (h : ¬ p < q) : callF FT (n + 2) 25 [nv p, nv q] = .exc 4 := by
  rw [callF_s h25 rfl]
  have e := callF_less h2 (n := n) hp hq hl
  rw [decide_eq_false h] at e
  unfold fd_ask_stretch
  clear hp hq h
  walk_at "evh"
end
/-- the curve over a stretch, as a curve over 0 to 1 -/
def onP (l : List Rat) (a b : Rat) : List Rat := strG (1 / (b - a)) 1 (movP (0 - a) l)
theorem wide_ne {a b : Rat} (h : a < b) : 1 / (b - a) ≠ 0 := by
  have : b - a ≠ 0 := fun z => by
    have : b = a := by grind
    rw [this] at h; exact Rat.lt_irrefl h
  grind
theorem ev_on {l : List Rat} {a b t : Rat} (h : a < b) : ev (onP l a b) t = ev l (a + t * (b - a)) := by
  unfold onP
  rw [ev_str (wide_ne h) _ _ (by decide), ev_mov]
  have hw := wide_ne h
  have : t / (1 / (b - a)) - (0 - a) = a + t * (b - a) := by grind
  rw [this]; grind
theorem on_len {l : List Rat} {a b : Rat} (tl : Trim l) : (onP l a b).length = l.length := by unfold onP; rw [str_len, mov_len_eq tl]
theorem on_trim {l : List Rat} {a b : Rat} (h : a < b) : Trim (onP l a b) := Trim.str (wide_ne h) .mov (by decide)
section
variable (h0 : FT 0 = some fd_divisor_of) (h1 : FT 1 = some fd_number) (h4 : FT 4 = some fd_plus) (h5 : FT 5 = some fd_minus) (h6 : FT 6 = some fd_times) (h7 : FT 7 = some fd_over) (h8 : FT 8 = some fd_without_noughts) (h11 : FT 11 = some fd_at_power) (h13 : FT 13 = some fd_added) (h15 : FT 15 = some fd_product) (h18 : FT 18 = some fd_moved) (h19 : FT 19 = some fd_stretched) (h27 : FT 27 = some fd_of_whole)
include h0 h1 h4 h5 h6 h7 h8 h11 h13 h15 h18 h19 h27
/-- the size of what on_one tells: numbers below 2^K, ends below 2^s -/
def onB (K s : Nat) : Nat := 26 * K + 60 * s + 200
theorem callF_on_one (h28 : FT 28 = some fd_on_one) {n K s : Nat} {l : List Rat} {a b : Rat} (hab : a < b) (bl : BL K l) (ba : Bd s a) (bb : Bd s b) (hl : l.length ≤ 13) (hK : K ≤ 100000) (hs : s ≤ 100000) :
    callF FT (n + 6) 28 [cv l, nv a, nv b] = .ok (lv (onP l a b), true) ∧ BL (onB K s) (onP l a b) := by
  have b0 : Bd 1 (0 : Rat) := ⟨by decide, by decide⟩
  have b1 : Bd 1 (1 : Rat) := ⟨by decide, by decide⟩
  have w0 : callF FT (n + 5) 27 [.int 0] = .ok (nv 0, false) := callF_of_whole h0 h1 h27 (n := n + 2) (z := 0)
  have w1 : callF FT (n + 5) 27 [.int 1] = .ok (nv 1, false) := callF_of_whole h0 h1 h27 (n := n + 2) (z := 1)
  have e1 : callF FT (n + 5) 5 [nv 0, nv a] = _ := callF_minus h0 h1 h5 (n := n + 2) b0 ba (by omega)
  have e2 : callF FT (n + 5) 5 [nv b, nv a] = _ := callF_minus h0 h1 h5 (n := n + 2) bb ba (by omega)
  have hne : b - a ≠ 0 := fun z => by
    have : b = a := by grind
    rw [this] at hab; exact Rat.lt_irrefl hab
  have e3 : callF FT (n + 5) 7 [nv 1, nv (b - a)] = _ := callF_over h0 h1 h7 (n := n + 2) hne b1 (bb.sub ba) (by omega)
  have hlK : l.length * K ≤ 13 * K := Nat.mul_le_mul_right _ hl
  have hls : l.length * (2 * (1 + s + 1) + 2) ≤ 13 * (2 * (1 + s + 1) + 2) := Nat.mul_le_mul_right _ hl
  obtain ⟨e4, bm⟩ := callF_moved h0 h1 h4 h6 h8 h11 h13 h15 h18 (n := n) (b0.sub ba) bl (by omega) (by omega)
  have lm := mov_len (c := 0 - a) l
  have hlm : (movP (0 - a) l).length * (1 + (s + s + 1)) ≤ 13 * (1 + (s + s + 1)) := Nat.mul_le_mul_right _ (by omega)
  obtain ⟨e5, bs⟩ := callF_stretched h0 h1 h6 h7 h19 (n := n + 1) (wide_ne hab) (b1.div (bb.sub ba)) bm (by omega) (by omega)
  refine ⟨?_, bs.mono (by unfold onB; omega)⟩
  rw [callF_s h28 rfl]
  have e6 : strG (1 / (b - a)) 1 (movP (0 - a) l) = onP l a b := rfl
  rw [e6] at e5
  have e4 : callF FT (n + 5) 18 [cv l, nv (0 - a)] = _ := e4
  have e5 : callF FT (n + 5) 19 [cv (movP (0 - a) l), nv (1 / (b - a))] = _ := e5
  unfold fd_on_one
  clear bl ba bb b0 b1 bm bs hne hlK hls lm hlm hab hK hs hl e6
  walk_at "evh"
omit h4 h5 h6 h7 h8 h11 h13 h15 h18 h19 h27 in
theorem mix_in (h4 : FT 4 = some fd_plus) (h6 : FT 6 = some fd_times) (h26 : FT 26 = some fd_choose) {n N k P : Nat} {p F : List Rat} {x0 x1 x2 : Option (Val × Bool)} (hN : N ≤ 12) (hk : k ≤ N) (bp : BL (P + 1) p) (hP : P ≤ 5000000) : ∀ (d j : Nat) (z8 : Option (Val × Bool)), j + d ≤ k + 1 → j + d ≤ p.length → Bd (1 + j * (P + 20)) (sm (fun j => ((ch k j : Rat) / (ch N j : Rat)) * co p j) j) →
    ∃ y8, forL (.one 8) (fun env' => evSs (callF FT (n + 3)) mxI env') (rngV j d) [x0, x1, x2, some (.int N, false), some (lv p, true), some (lv F, true), some (.int k, false), some (nv (sm (fun j => ((ch k j : Rat) / (ch N j : Rat)) * co p j) j), false), z8] = .nx [x0, x1, x2, some (.int N, false), some (lv p, true), some (lv F, true), some (.int k, false), some (nv (sm (fun j => ((ch k j : Rat) / (ch N j : Rat)) * co p j) (j + d)), false), y8] ∧ Bd (1 + (j + d) * (P + 20)) (sm (fun j => ((ch k j : Rat) / (ch N j : Rat)) * co p j) (j + d))
  | 0, j, z8, _, _, hb => ⟨z8, rfl, hb⟩
  | d + 1, j, z8, h1', h2', hb => by
    have hj : j ≤ N := by omega
    have hjp : j < p.length := by omega
    have c1 := callF_choose h26 (n := n + 2) (N := k) (k := j) (by omega) (by omega)
    have c2 := callF_choose h26 (n := n + 2) (N := N) (k := j) hN hj
    have cp := ch_pos (n := N) (k := j) hj
    have c3 := callF_number h0 h1 (n := n + 1) (t := (ch k j : Int)) (b := (ch N j : Int)) (by omega)
    have er : Rat.divInt (ch k j : Int) (ch N j : Int) = (ch k j : Rat) / (ch N j : Rat) := by rw [Rat.divInt_eq_div, Rat.intCast_natCast, Rat.intCast_natCast]
    rw [er] at c3
    have br : Bd 14 ((ch k j : Rat) / (ch N j : Rat)) := by
      rw [← er]
      exact .divInt (by decide) (by rw [Int.natAbs_natCast]; exact pow_up (ch_bd (by omega)) (by decide)) (by rw [Int.natAbs_natCast]; exact pow_up (ch_bd hN) (by decide))
    have bt := br.mul (bp.co j)
    have c4 := callF_times h0 h1 h6 (n := n) br (bp.co j) (by omega)
    have hjs : j * (P + 20) ≤ 13 * 5000020 := Nat.mul_le_mul (by omega) (by omega)
    have c5 := callF_plus h0 h1 h4 (n := n) hb bt (by omega)
    have ix : evIx (lv p) (.int (j : Int)) = .ok (nv (co p j)) := ix_lvN rfl (co_get hjp)
    have bn : Bd (1 + (j + 1) * (P + 20)) (sm (fun j => ((ch k j : Rat) / (ch N j : Rat)) * co p j) (j + 1)) := by
      rw [sm_succ]
      exact (hb.add bt).mono (by rw [Nat.succ_mul]; omega)
    obtain ⟨y8, g1, g2⟩ := mix_in h4 h6 h26 (n := n) (x0 := x0) (x1 := x1) (x2 := x2) (F := F) hN hk bp hP d (j + 1) (some (.int j, false)) (by omega) (by omega) bn
    have ej : j + 1 + d = j + (d + 1) := by omega
    rw [ej] at g1 g2
    refine ⟨y8, ?_, g2⟩
    rw [rngV_succ, show (j : Int) + 1 = ((j + 1 : Nat) : Int) by omega, ← g1]
    have es : sm (fun j => ((ch k j : Rat) / (ch N j : Rat)) * co p j) j + ((ch k j : Rat) / (ch N j : Rat)) * co p j = sm (fun j => ((ch k j : Rat) / (ch N j : Rat)) * co p j) (j + 1) := rfl
    rw [es] at c5
    refine forL_cons (env1 := [x0, x1, x2, some (.int N, false), some (lv p, true), some (lv F, true), some (.int k, false), some (nv (sm (fun j => ((ch k j : Rat) / (ch N j : Rat)) * co p j) j), false), some (.int j, false)]) rfl ?_
    generalize sm (fun j => ((ch k j : Rat) / (ch N j : Rat)) * co p j) (j + 1) = S1 at *
    generalize sm (fun j => ((ch k j : Rat) / (ch N j : Rat)) * co p j) j = S0 at *
    unfold mxI
    clear g1 g2 bn es hb bt br er bp hjs cp
    walk_at "evh"
omit h0 h1 h4 h5 h6 h7 h8 h11 h13 h15 h18 h19 h27 in
theorem mxn_min {p : List Rat} {N k : Nat} : sm (fun j => ((ch k j : Rat) / (ch N j : Rat)) * co p j) (min (k + 1) p.length) = mxn p N k := by
  unfold mxn
  have : ∀ m m' : Nat, m ≤ m' → (∀ j, m ≤ j → j < m' → ((ch k j : Rat) / (ch N j : Rat)) * co p j = 0) → sm (fun j => ((ch k j : Rat) / (ch N j : Rat)) * co p j) m = sm (fun j => ((ch k j : Rat) / (ch N j : Rat)) * co p j) m' := by
    intro m m' h
    induction h with
    | refl => intro _; rfl
    | step h ih =>
      rename_i m'
      intro hz
      rw [sm_succ, ← ih fun j h1 h2 => hz j h1 (by omega), hz m' h (by omega)]; grind
  refine this _ _ (Nat.min_le_right _ _) fun j h1 h2 => ?_
  rw [ch_out (show k < j by omega), nc0]; grind
omit h4 h5 h6 h7 h8 h11 h13 h15 h18 h19 h27 in
theorem mix_out (h4 : FT 4 = some fd_plus) (h6 : FT 6 = some fd_times) (h26 : FT 26 = some fd_choose) (h27 : FT 27 = some fd_of_whole) {n N P : Nat} {p : List Rat} {x0 x1 x2 : Option (Val × Bool)} (hN : N ≤ 12) (bp : BL (P + 1) p) (hP : P ≤ 5000000) (hpl : p.length ≤ 20) : ∀ (d k : Nat) (F : List Rat) (z6 z7 z8 : Option (Val × Bool)), k + d ≤ N + 1 → F.length + d ≤ 100 → BL (1 + 13 * (P + 20)) F →
    ∃ y6 y7 y8, forL (.one 6) (fun env' => evSs (callF FT (n + 3)) mxO env') (rngV k d) [x0, x1, x2, some (.int N, false), some (lv p, true), some (lv F, true), z6, z7, z8] = .nx [x0, x1, x2, some (.int N, false), some (lv p, true), some (lv (F ++ seg (mxn p N) k d), true), y6, y7, y8] ∧ BL (1 + 13 * (P + 20)) (F ++ seg (mxn p N) k d)
  | 0, k, F, z6, z7, z8, _, _, bF => ⟨z6, z7, z8, by rw [seg_zero, List.append_nil]; rfl, by rw [seg_zero, List.append_nil]; exact bF⟩
  | d + 1, k, F, z6, z7, z8, h, hF, bF => by
    have w0 : callF FT (n + 3) 27 [.int 0] = .ok (nv 0, false) := callF_of_whole h0 h1 h27 (n := n) (z := 0)
    obtain ⟨y8, g1, g2⟩ := mix_in h0 h1 h4 h6 h26 (n := n) (x0 := x0) (x1 := x1) (x2 := x2) (F := F) hN (show k ≤ N by omega) bp hP (min (k + 1) p.length) 0 z8 (by omega) (by omega) ⟨by show (0 : Rat).num.natAbs < _; rw [Nat.zero_mul]; decide, by show (0 : Rat).den < _; rw [Nat.zero_mul]; decide⟩
    rw [Nat.zero_add, mxn_min] at g1 g2
    have hm : min (k + 1) p.length * (P + 20) ≤ 13 * (P + 20) := Nat.mul_le_mul_right _ (by omega)
    have bF' : BL (1 + 13 * (P + 20)) (F ++ [mxn p N k]) := bF.app (.cons (g2.mono (by omega)) .nil)
    obtain ⟨y6, y7, y8', e1, e2⟩ := mix_out h4 h6 h26 h27 (n := n) (x0 := x0) (x1 := x1) (x2 := x2) hN bp hP hpl d (k + 1) (F ++ [mxn p N k]) (some (.int k, false)) (some (nv (mxn p N k), false)) y8 (by omega) (by simp; omega) bF'
    rw [List.append_assoc] at e1 e2
    rw [seg_succ]
    refine ⟨y6, y7, y8', ?_, e2⟩
    have lo : lenOk (F.length + 1) = true := lenOk_lit (by omega)
    have ea : F.map nv ++ [nv (mxn p N k)] = (F ++ [mxn p N k]).map nv := by simp
    have hmn : (if (p.length : Int) < (k : Int) + 1 then (p.length : Int) else (k : Int) + 1) = (min (k + 1) p.length : Nat) := by split <;> omega
    have r : rngOk ((min (k + 1) p.length : Nat) : Int) = true := rng_ok (by omega)
    have et : ((min (k + 1) p.length : Nat) : Int).toNat = min (k + 1) p.length := Int.toNat_natCast _
    have g1 : forL (.one 8) (fun env' => evSs (callF FT (n + 3)) mxI env') (rngV 0 (min (k + 1) p.length)) [x0, x1, x2, some (.int N, false), some (lv p, true), some (lv F, true), some (.int k, false), some (nv 0, false), z8] = _ := g1
    rw [rngV_succ, show (k : Int) + 1 = ((k + 1 : Nat) : Int) by omega, show (mxn p N k :: seg (mxn p N) (k + 1) d) = [mxn p N k] ++ seg (mxn p N) (k + 1) d from rfl, ← e1]
    refine forL_cons (env1 := [x0, x1, x2, some (.int N, false), some (lv p, true), some (lv F, true), some (.int k, false), z7, z8]) rfl ?_
    generalize min (k + 1) p.length = mm at *
    unfold mxO
    clear e1 e2 g2 hm bF' bF bp
    walk_at "evh"
/-- the size of what mixed tells -/
def mixB (K s : Nat) : Nat := 13 * onB K s + 300
theorem callF_mixed_ok (h2 : FT 2 = some fd_less) (h25 : FT 25 = some fd_ask_stretch) (h26 : FT 26 = some fd_choose) (h28 : FT 28 = some fd_on_one) (h29 : FT 29 = some fd_mixed) {n N K s : Nat} {l : List Rat} {a b : Rat} (tl : Trim l) (hab : a < b) (bl : BL K l) (ba : Bd s a) (bb : Bd s b) (hl : l.length ≤ N + 1) (hN : N ≤ 12) (hK : K ≤ 100000) (hs : s ≤ 10000) :
    callF FT (n + 7) 29 [cv l, nv a, nv b, .int N] = .ok (lv (seg (mxn (onP l a b) N) 0 (N + 1)), true) ∧ BL (mixB K s) (seg (mxn (onP l a b) N) 0 (N + 1)) := by
  obtain ⟨e1, b1⟩ := callF_on_one h0 h1 h4 h5 h6 h7 h8 h11 h13 h15 h18 h19 h27 h28 (n := n) hab bl ba bb (by omega) (by omega) (by omega)
  have b1 : BL (onB K s - 1 + 1) (onP l a b) := b1.mono (by unfold onB; omega)
  have lp := on_len (a := a) (b := b) tl
  obtain ⟨y6, y7, y8, g1, g2⟩ := mix_out h0 h1 h4 h6 h26 h27 (n := n + 3) (x0 := some (cv l, false)) (x1 := some (nv a, false)) (x2 := some (nv b, false)) hN b1 (by unfold onB; omega) (by omega) (N + 1) 0 [] none none none (by omega) (by simp; omega) .nil
  rw [List.nil_append] at g1 g2
  refine ⟨?_, g2.mono (by unfold mixB onB; omega)⟩
  rw [callF_s h29 rfl]
  have a1 := callF_ask h0 h1 h2 h25 (n := n + 4) ba bb (by omega) hab
  have c1 : ¬ (N : Int) < 0 := by omega
  have c2 : ¬ (N : Int) < (l.length : Int) - 1 := by omega
  have c3 : ¬ (12 : Int) < N := by omega
  have r : rngOk ((N : Int) + 1) = true := rng_ok (by omega)
  have et : ((N : Int) + 1).toNat = N + 1 := by omega
  have en : Val.lst [] = lv [] := rfl
  have eb : fd_mixed.body = [.exp (.call 25 [(.nm 1), (.nm 2)]), .ifs (.or (.cmp .lt (.bor 3) (.cst (.int 0))) (.or (.cmp .lt (.bor 3) (.bin .sub (.blt .len [(.bor 0)]) (.cst (.int 1)))) (.cmp .gt (.bor 3) (.cst (.int 12))))) [.rse 3] [], .set 4 (.call 28 [(.nm 0), (.nm 1), (.nm 2)]), .set 5 (.lst []), .for (.one 6) (.rng1 (.bin .add (.bor 3) (.cst (.int 1)))) mxO, .ret (.nm 5)] := rfl
  rw [eb, show fd_mixed.nl = 9 from rfl]
  have g1 : forL (.one 6) (fun env' => evSs (callF FT (n + 6)) mxO env') (rngV 0 (N + 1)) [some (cv l, false), some (nv a, false), some (nv b, false), some (.int N, false), some (lv (onP l a b), true), some (lv [], true), none, none, none] = _ := g1
  clear eb g2 b1 bl ba bb tl hab lp hK hs
  generalize N + 1 = M at g1 et ⊢
  walk_at "evh"
end
end
end G

set_option linter.all false
set_option maxHeartbeats 1000000
set_option maxRecDepth 10000
/-! F11: what the laws about mixing numbers and maps draw and reckon with. -/
namespace G
open PySem
local macro_rules | `(tactic| walk_at "ev") => `(tactic| simp only [vl_nm, vl_bor, vl_cst, vl_bin, vl_neg, vl_cmp, vl_isn, vl_chn, vl_inn, vl_and, vl_or, vl_not, vl_ifx, vl_ix, vl_slc, vl_rev, vl_tup, vl_lst, vl_call, vl_blt, vl_isi, vl_lc, ev_nm, ev_cst, ev_bin, ev_neg, ev_cmp, ev_isn, ev_chn, ev_inn, ev_and, ev_or, ev_not, ev_ifx, ev_ix, ev_slc, ev_rev, ev_tup, ev_lst, ev_call, ev_blt, ev_isi, ev_lc, evEs_nil, evEs_cons, evAs_nil, evAs_cons, evO_none, evO_some, evC_none, evC_some, evIt_val, evIt_rng1, evIt_rng2, evIt_rvd, evT_vl, andR_t, andR_f, orR_f, orR_t, ifxR_t, ifxR_f, chnR_t, chnR_f, ss_nil', ss_cons', thn_nx, thn_ret, thn_exc, thn_bad, s_set', set_ok, set_exc, s_unp', unp_ok, s_ifs', if_t, if_f, s_for', for_ok, s_whl', s_ret', s_retn', s_pass', s_rse', s_exp', s_try', try_nx, try_ret, try_exc, s_par', s_par3', s_six', s_app', s_pop', s_popu', s_rev', rO_ok, rO_exc, ret_nm, ret_bor, ret_cst, ret_bin, ret_neg, ret_cmp, ret_isn, ret_chn, ret_inn, ret_and, ret_or, ret_not, ret_ifx, ret_ix, ret_slc, ret_rev, ret_tup, ret_lst, ret_call, ret_blt, ret_isi, ret_lc, fin_nx, fin_ret, fin_exc, b_add, b_sub, b_mul, b_fdiv, b_mod, p11, p12, p30, p42, p57, p59, b_addL, b_addT, b_mulL, c_lt, c_le, c_gt, c_ge, truth_bl, toI_int, toB_bl, items_lst, items_tup, len_lst, len_tup, len_scr, abs_int, int_int, int_bl, list_lst, list_tup, list_scr, tuple_lst, tuple_tup, max_int, min_int, ix_p0, ix_p1, c_eqI, c_neI, startE, frzE, frzI, frzAll, frz, kept, keptL, keptO, keptI, put, look, lookF, ownL_s, ownS_lst, evCall, lent, borI, bind_one, bind_tup, putAll, isLst_int, isLst_bl, isLst_str, isLst_tup, isLst_non, isLst_scr, isLst_exc, isLst_lst, isNon_int, isNon_bl, isNon_str, isNon_tup, isNon_non, isNon_scr, isNon_exc, isNon_lst, R.bind_ok, R.bind_exc, R.map_ok, R.map_exc, List.map_cons, List.map_nil, List.length_cons, List.length_nil, List.replicate, List.cons_append, List.nil_append, List.append_nil, List.getElem?_cons_zero, List.getElem?_cons_succ, List.set_cons_zero, List.set_cons_succ, Bool.false_and, Bool.true_and, Bool.and_true, Bool.and_false, Bool.or_false, Bool.false_or, Bool.or_true, Bool.true_or, Bool.not_true, Bool.not_false, decide_true, decide_false, if_true, if_false, ite_true, ite_false, reduceCtorEq, reduceIte, Nat.reduceAdd, Nat.reduceSub, Nat.reduceMul, Nat.reduceEqDiff, Int.reduceEq, Int.reduceLT, Int.reduceLE, Int.reduceNe, Int.reduceNeg, Int.reduceAdd, Int.reduceMul, Int.reduceSub, Nat.reduceLT, Nat.reduceLeDiff, Int.reduceGT, Int.reduceGE, is_tup_tuple, is_tup_list, is_tup_int, is_tup_bool, is_tup_str, is_lst_tuple, is_lst_list, is_lst_int, is_lst_bool, is_lst_str, is_int_tuple, is_int_list, is_int_int, is_int_bool, is_int_str, is_bl_tuple, is_bl_list, is_bl_int, is_bl_bool, is_bl_str, is_str_tuple, is_str_list, is_str_int, is_str_bool, is_str_str, is_non_tuple, is_non_list, is_non_int, is_non_bool, is_non_str, forS_ok, forB_nx, forB_ret, forL_nil, lc_nil, Int.cast_ofNat_Int, lc_cons, vlE_d, lenOk0, lenOk1, lenOk2, lenOk3, wipe1, wipe2, R.noexc_ok, decide_eq_true_eq, eq_self, ix_nv0, ix_nv1, is_nv_tuple, is_cv_tuple, is_lv_list, is_lv_tuple, is_cv_list, isLst_nv, isLst_cv, isLst_lv, isNon_nv, isNon_cv, isNon_lv, bind_nv, items_cv, items_lv, len_cv, len_lv, list_cv, list_lv, tuple_cv, tuple_lv, c_eqN, c_neN, c_eqC, c_neC, c_eqL, c_neL, nv01, nv11, cv_nil, cv_one, rev_lv, rev_cv, lv_one, lv_map, cv_map, lenOk_map, List.length_map, ownS_lv, back_bl, back_int, back_nv, back_cv, back_lv, c_eqB, c_neB])
local macro_rules | `(tactic| walk_at "evh") => `(tactic| simp only [vl_nm, vl_bor, vl_cst, vl_bin, vl_neg, vl_cmp, vl_isn, vl_chn, vl_inn, vl_and, vl_or, vl_not, vl_ifx, vl_ix, vl_slc, vl_rev, vl_tup, vl_lst, vl_call, vl_blt, vl_isi, vl_lc, ev_nm, ev_cst, ev_bin, ev_neg, ev_cmp, ev_isn, ev_chn, ev_inn, ev_and, ev_or, ev_not, ev_ifx, ev_ix, ev_slc, ev_rev, ev_tup, ev_lst, ev_call, ev_blt, ev_isi, ev_lc, evEs_nil, evEs_cons, evAs_nil, evAs_cons, evO_none, evO_some, evC_none, evC_some, evIt_val, evIt_rng1, evIt_rng2, evIt_rvd, evT_vl, andR_t, andR_f, orR_f, orR_t, ifxR_t, ifxR_f, chnR_t, chnR_f, ss_nil', ss_cons', thn_nx, thn_ret, thn_exc, thn_bad, s_set', set_ok, set_exc, s_unp', unp_ok, s_ifs', if_t, if_f, s_for', for_ok, s_whl', s_ret', s_retn', s_pass', s_rse', s_exp', s_try', try_nx, try_ret, try_exc, s_par', s_par3', s_six', s_app', s_pop', s_popu', s_rev', rO_ok, rO_exc, ret_nm, ret_bor, ret_cst, ret_bin, ret_neg, ret_cmp, ret_isn, ret_chn, ret_inn, ret_and, ret_or, ret_not, ret_ifx, ret_ix, ret_slc, ret_rev, ret_tup, ret_lst, ret_call, ret_blt, ret_isi, ret_lc, fin_nx, fin_ret, fin_exc, b_add, b_sub, b_mul, b_fdiv, b_mod, p11, p12, p30, p42, p57, p59, b_addL, b_addT, b_mulL, c_lt, c_le, c_gt, c_ge, truth_bl, toI_int, toB_bl, items_lst, items_tup, len_lst, len_tup, len_scr, abs_int, int_int, int_bl, list_lst, list_tup, list_scr, tuple_lst, tuple_tup, max_int, min_int, ix_p0, ix_p1, c_eqI, c_neI, startE, frzE, frzI, frzAll, frz, kept, keptL, keptO, keptI, put, look, lookF, ownL_s, ownS_lst, evCall, lent, borI, bind_one, bind_tup, putAll, isLst_int, isLst_bl, isLst_str, isLst_tup, isLst_non, isLst_scr, isLst_exc, isLst_lst, isNon_int, isNon_bl, isNon_str, isNon_tup, isNon_non, isNon_scr, isNon_exc, isNon_lst, R.bind_ok, R.bind_exc, R.map_ok, R.map_exc, List.map_cons, List.map_nil, List.length_cons, List.length_nil, List.replicate, List.cons_append, List.nil_append, List.append_nil, List.getElem?_cons_zero, List.getElem?_cons_succ, List.set_cons_zero, List.set_cons_succ, Bool.false_and, Bool.true_and, Bool.and_true, Bool.and_false, Bool.or_false, Bool.false_or, Bool.or_true, Bool.true_or, Bool.not_true, Bool.not_false, decide_true, decide_false, if_true, if_false, ite_true, ite_false, reduceCtorEq, reduceIte, Nat.reduceAdd, Nat.reduceSub, Nat.reduceMul, Nat.reduceEqDiff, Int.reduceEq, Int.reduceLT, Int.reduceLE, Int.reduceNe, Int.reduceNeg, Int.reduceAdd, Int.reduceMul, Int.reduceSub, Nat.reduceLT, Nat.reduceLeDiff, Int.reduceGT, Int.reduceGE, is_tup_tuple, is_tup_list, is_tup_int, is_tup_bool, is_tup_str, is_lst_tuple, is_lst_list, is_lst_int, is_lst_bool, is_lst_str, is_int_tuple, is_int_list, is_int_int, is_int_bool, is_int_str, is_bl_tuple, is_bl_list, is_bl_int, is_bl_bool, is_bl_str, is_str_tuple, is_str_list, is_str_int, is_str_bool, is_str_str, is_non_tuple, is_non_list, is_non_int, is_non_bool, is_non_str, forS_ok, forB_nx, forB_ret, forL_nil, lc_nil, Int.cast_ofNat_Int, lc_cons, vlE_d, lenOk0, lenOk1, lenOk2, lenOk3, wipe1, wipe2, R.noexc_ok, decide_eq_true_eq, eq_self, ix_nv0, ix_nv1, is_nv_tuple, is_cv_tuple, is_lv_list, is_lv_tuple, is_cv_list, isLst_nv, isLst_cv, isLst_lv, isNon_nv, isNon_cv, isNon_lv, bind_nv, items_cv, items_lv, len_cv, len_lv, list_cv, list_lv, tuple_cv, tuple_lv, c_eqN, c_neN, c_eqC, c_neC, c_eqL, c_neL, nv01, nv11, cv_nil, cv_one, rev_lv, rev_cv, lv_one, lv_map, cv_map, lenOk_map, List.length_map, ownS_lv, back_bl, back_int, back_nv, back_cv, back_lv, c_eqB, c_neB, *])
def fd_law_cell3 : FD := ⟨2, 2, [.ifs (.cmp .lt (.bor 1) (.blt .len [(.bor 0)])) [.ret (.bin .mod (.bin .add (.bin .mul (.ix (.bor 0) (.bor 1)) (.cst (.int 48271))) (.bin .mul (.bin .mul (.bor 1) (.bor 1)) (.cst (.int 69621)))) (.cst (.int 2147483647)))] [], .ret (.bin .mod (.bin .mul (.bin .add (.bin .add (.bin .mul (.bin .mul (.bor 1) (.bor 1)) (.cst (.int 69621))) (.bin .mul (.blt .len [(.bor 0)]) (.cst (.int 7919)))) (.cst (.int 5))) (.cst (.int 16807))) (.cst (.int 2147483647)))]⟩
def fd_law_low3 : FD := ⟨2, 5, [.set 2 (.blt .abs [(.bor 0)]), .set 3 (.nm 1), .whl (.cmp .gt (.bor 3) (.cst (.int 0))) [.set 4 (.bin .mod (.bor 2) (.bor 3)), .set 2 (.nm 3), .set 3 (.nm 4)], .ret (.tup [(.bin .fdiv (.bor 0) (.bor 2)), (.bin .fdiv (.bor 1) (.bor 2))])]⟩
def fd_law_plus3 : FD := ⟨2, 2, [.ret (.call 128 [(.bin .add (.bin .mul (.ix (.bor 0) (.cst (.int 0))) (.ix (.bor 1) (.cst (.int 1)))) (.bin .mul (.ix (.bor 1) (.cst (.int 0))) (.ix (.bor 0) (.cst (.int 1))))), (.bin .mul (.ix (.bor 0) (.cst (.int 1))) (.ix (.bor 1) (.cst (.int 1))))])]⟩
def fd_law_times3 : FD := ⟨2, 2, [.ret (.call 128 [(.bin .mul (.ix (.bor 0) (.cst (.int 0))) (.ix (.bor 1) (.cst (.int 0)))), (.bin .mul (.ix (.bor 0) (.cst (.int 1))) (.ix (.bor 1) (.cst (.int 1))))])]⟩
def fd_law_minus3 : FD := ⟨2, 2, [.ret (.call 128 [(.bin .sub (.bin .mul (.ix (.bor 0) (.cst (.int 0))) (.ix (.bor 1) (.cst (.int 1)))) (.bin .mul (.ix (.bor 1) (.cst (.int 0))) (.ix (.bor 0) (.cst (.int 1))))), (.bin .mul (.ix (.bor 0) (.cst (.int 1))) (.ix (.bor 1) (.cst (.int 1))))])]⟩
def fd_law_worth3 : FD := ⟨2, 4, [.set 2 (.tup [(.cst (.int 0)), (.cst (.int 1))]), .for (.one 3) (.val (.rev (.bor 0))) [.set 2 (.call 156 [(.call 145 [(.nm 2), (.nm 1)]), (.nm 3)])], .ret (.nm 2)]⟩
def fd_law_mix3 : FD := ⟨2, 8, [.set 2 (.bin .sub (.blt .len [(.bor 0)]) (.cst (.int 1))), .set 3 (.tup [(.cst (.int 0)), (.cst (.int 1))]), .set 4 (.cst (.int 1)), .for (.one 5) (.rng1 (.bin .add (.bor 2) (.cst (.int 1)))) [.set 6 (.call 145 [(.ix (.bor 0) (.bor 5)), (.tup [(.nm 4), (.cst (.int 1))])]), .for (.one 7) (.rng1 (.bor 2)) [.ifs (.cmp .lt (.bor 7) (.bor 5)) [.set 6 (.call 145 [(.nm 6), (.nm 1)])] [.set 6 (.call 145 [(.nm 6), (.call 157 [(.tup [(.cst (.int 1)), (.cst (.int 1))]), (.nm 1)])])]], .set 3 (.call 156 [(.nm 3), (.nm 6)]), .set 4 (.bin .fdiv (.bin .mul (.bor 4) (.bin .sub (.bor 2) (.bor 5))) (.bin .add (.bor 5) (.cst (.int 1))))], .ret (.nm 3)]⟩
def fd_law_numbers3 : FD := ⟨2, 3, [.ifs (.or (.not (.isi (.bor 0) [(.ty "list")])) (.cmp .ne (.blt .len [(.bor 0)]) (.bor 1))) [.ret (.cst (.bl false))] [], .for (.one 2) (.val (.nm 0)) [.ifs (.or (.not (.isi (.bor 2) [(.ty "tuple")])) (.or (.cmp .ne (.blt .len [(.bor 2)]) (.cst (.int 2))) (.or (.isi (.ix (.bor 2) (.cst (.int 0))) [(.ty "bool")]) (.isi (.ix (.bor 2) (.cst (.int 1))) [(.ty "bool")])))) [.ret (.cst (.bl false))] [], .ifs (.or (.not (.isi (.ix (.bor 2) (.cst (.int 0))) [(.ty "int")])) (.or (.not (.isi (.ix (.bor 2) (.cst (.int 1))) [(.ty "int")])) (.cmp .lt (.ix (.bor 2) (.cst (.int 1))) (.cst (.int 1))))) [.ret (.cst (.bl false))] [], .ifs (.cmp .ne (.call 128 [(.ix (.bor 2) (.cst (.int 0))), (.ix (.bor 2) (.cst (.int 1)))]) (.bor 2)) [.ret (.cst (.bl false))] []], .ret (.cst (.bl true))]⟩
def fd_law_number3 : FD := ⟨1, 2, [.set 1 (.ix (.lst [(.cst (.int 4)), (.cst (.int 9)), (.cst (.int 30)), (.cst (.int 1000))]) (.bin .mod (.bor 0) (.cst (.int 4)))), .ret (.call 128 [(.bin .sub (.bin .mod (.bin .fdiv (.bor 0) (.cst (.int 4))) (.bin .add (.bin .mul (.cst (.int 2)) (.bor 1)) (.cst (.int 1)))) (.bor 1)), (.bin .add (.cst (.int 1)) (.bin .mod (.bin .fdiv (.bor 0) (.cst (.int 8192))) (.ix (.lst [(.cst (.int 1)), (.cst (.int 3)), (.cst (.int 6)), (.cst (.int 12))]) (.bin .mod (.bin .fdiv (.bor 0) (.cst (.int 65536))) (.cst (.int 4))))))])]⟩
def fd_law_curve3 : FD := ⟨3, 5, [.set 3 (.lc (.one 4) (.rng1 (.bin .add (.bor 2) (.cst (.int 1)))) none (.call 129 [(.call 155 [(.nm 0), (.bin .add (.bor 1) (.bor 4))])])), .whl (.and (.cmp .gt (.blt .len [(.bor 3)]) (.cst (.int 0))) (.cmp .eq (.ix (.ix (.bor 3) (.neg (.cst (.int 1)))) (.cst (.int 0))) (.cst (.int 0)))) [.pop 3], .ret (.blt .tuple [(.bor 3)])]⟩
def fd_law_stretch3 : FD := ⟨2, 4, [.set 2 (.call 129 [(.call 155 [(.nm 0), (.nm 1)])]), .set 3 (.call 129 [(.bin .fdiv (.call 155 [(.nm 0), (.bin .add (.bor 1) (.cst (.int 1)))]) (.cst (.int 3)))]), .ifs (.cmp .lt (.ix (.bor 3) (.cst (.int 0))) (.cst (.int 1))) [.set 3 (.call 128 [(.bin .sub (.cst (.int 1)) (.ix (.bor 3) (.cst (.int 0)))), (.ix (.bor 3) (.cst (.int 1)))])] [], .ret (.tup [(.nm 2), (.call 156 [(.nm 2), (.nm 3)])])]⟩
section
variable {FT : Nat → Option FD}
/-- a cell -/
def cx (ns : List Int) (k : Int) : Int := if k < ns.length then ((L2.atI ns k).getD 0 * 48271 + k * k * 69621).fmod 2147483647 else ((k * k * 69621 + ns.length * 7919 + 5) * 16807).fmod 2147483647
theorem cx_bd (ns : List Int) (k : Int) : 0 ≤ cx ns k ∧ cx ns k < 2147483647 := by unfold cx; split <;> exact fmod_bd _ (by decide)
/-- the script's numbers are no greater than told -/
def Sml (ns : List Int) : Prop := ns.length ≤ 63 ∧ ∀ z ∈ ns, z.natAbs < 2 ^ 1048577
theorem callF_cell (h : FT 155 = some fd_law_cell3) {n : Nat} {ns : List Int} (hs : Sml ns) {k : Int} (k0 : 0 ≤ k) (k1 : k < 10000) : callF FT (n + 1) 155 [.scr ns, .int k] = .ok (.int (cx ns k), false) := by
  rw [callF_s h rfl]
  have hk : k.natAbs < 2 ^ 14 := natAbs_lt_pow (by omega) (by omega)
  have m1 : mulOk k k = true := mul_small hk hk (by decide)
  have m2 : mulOk (k * k) 69621 = true := mul_small (mul_sz hk hk) (by decide : (69621 : Int).natAbs < 2 ^ 17) (by decide)
  have hl := hs.1
  unfold fd_law_cell3
  by_cases hlt : k < ns.length
  · obtain ⟨z, hz, hm⟩ := atI_ex (xs := ns) k0 hlt
    have m3 : mulOk z 48271 = true := mul_small (hs.2 z hm) (by decide : (48271 : Int).natAbs < 2 ^ 16) (by decide)
    have ec : cx ns k = (z * 48271 + k * k * 69621).fmod 2147483647 := by unfold cx; rw [if_pos hlt, hz]; rfl
    have ez : ofO ((L2.atI ns k).map Val.int) = .ok (.int z) := by rw [hz]; rfl
    have ix : evIx (.scr ns) (.int k) = .ok (.int z) := ez
    rw [ec]
    clear hs hm hk
    walk_at "evh"
  · have m3 : mulOk (ns.length : Int) 7919 = true := mul_small (m := 10) (n := 13) (natAbs_lt_pow (by omega) (by omega)) (by decide) (by decide)
    have hkk := mul_sz (mul_sz hk hk) (by decide : (69621 : Int).natAbs < 2 ^ 17)
    have h7 : ((ns.length : Int) * 7919).natAbs < 2 ^ 45 := natAbs_lt_pow (by omega) (by omega)
    have m4 : mulOk (k * k * 69621 + ns.length * 7919 + 5) 16807 = true := mul_small (m := 47) (n := 15) (natAbs_add_lt (natAbs_add_lt (pow_up hkk (by decide)) h7) (by decide)) (by decide) (by decide)
    have ec : cx ns k = ((k * k * 69621 + ns.length * 7919 + 5) * 16807).fmod 2147483647 := by unfold cx; rw [if_neg hlt]
    rw [ec]
    clear hs hk hkk h7
    walk_at "evh"
def lowB3 : List S := [.set 4 (.bin .mod (.bor 2) (.bor 3)), .set 2 (.nm 3), .set 3 (.nm 4)]
theorem low3_loop {cl : Nat → List Val → R (Val × Bool)} {x0 x1 : Option (Val × Bool)} : ∀ (n : Nat) (a b : Int) (z : Option (Val × Bool)), 0 ≤ a → 0 ≤ b → b.toNat ≤ n → ∃ y3 y4, whlO cl (.cmp .gt (.bor 3) (.cst (.int 0))) lowB3 [x0, x1, some (.int a, false), some (.int b, false), z] = .nx [x0, x1, some (.int (Int.gcd a b), false), y3, y4] := fun n a b z ha hb hn => by
  by_cases h : b = 0
  · subst h
    have e : (Int.gcd a 0 : Int) = a := by simp; omega
    rw [e]
    exact ⟨_, _, whlO_f (by walk_at "ev")⟩
  · have hp : (0 : Int) < b := by omega
    have h1 := Int.fmod_lt_of_pos a hp
    have h2 := Int.fmod_nonneg_of_pos a hp
    cases n with
    | zero => omega
    | succ n =>
      obtain ⟨y3, y4, e⟩ := low3_loop (cl := cl) (x0 := x0) (x1 := x1) n b (a.fmod b) (some (.int (a.fmod b), false)) hb h2 (by omega)
      rw [gcd_fmod] at e
      refine ⟨y3, y4, ?_⟩
      rw [← e]
      clear e h1 h2 hn
      exact whlO_t (by walk_at "evh") (by unfold lowB3; walk_at "evh")
theorem callF_low3 (h : FT 128 = some fd_law_low3) {n : Nat} {t b : Int} (hb : 0 < b) : callF FT (n + 1) 128 [.int t, .int b] = .ok (nv (Rat.divInt t b), false) := by
  rw [callF_s h rfl]
  obtain ⟨y3, y4, e⟩ := low3_loop (cl := callF FT n) (x0 := some (.int t, false)) (x1 := some (.int b, false)) b.toNat (if t < 0 then -t else t) b none (by split <;> omega) (by omega) (Nat.le_refl _)
  rw [gcd_abs_left] at e
  have hg : ¬ ((Int.gcd t b : Nat) : Int) = 0 := by have := gcd_pos (a := t) (b := b) (by omega); omega
  have eb : fd_law_low3.body = [.set 2 (.blt .abs [(.bor 0)]), .set 3 (.nm 1), .whl (.cmp .gt (.bor 3) (.cst (.int 0))) lowB3, .ret (.tup [(.bin .fdiv (.bor 0) (.bor 2)), (.bin .fdiv (.bor 1) (.bor 2))])] := rfl
  rw [eb, show fd_law_low3.nl = 5 from rfl]
  unfold nv
  rw [divInt_num hb, divInt_den hb]
  clear hb eb
  walk_at "evh"
section
variable (f128 : FT 128 = some fd_law_low3)
include f128
theorem callF_plus3 (h : FT 156 = some fd_law_plus3) {n i j : Nat} {p q : Rat} (hp : Bd i p) (hq : Bd j q) (hl : i + j < 134000000) : callF FT (n + 2) 156 [nv p, nv q] = .ok (nv (p + q), false) := by
  rw [callF_s h rfl, ← plus_eq]
  have e := callF_low3 f128 (n := n) (t := p.num * q.den + q.num * p.den) (b := p.den * q.den) (Int.mul_pos (den_pos p) (den_pos q))
  have m1 : mulOk p.num q.den = true := mul_ok hp.1 hq.2 hl
  have m2 : mulOk q.num p.den = true := mul_ok hq.1 hp.2 (by omega)
  have m3 : mulOk p.den q.den = true := mul_ok hp.2 hq.2 hl
  unfold fd_law_plus3
  walk_at "evh"
theorem callF_minus3 (h : FT 157 = some fd_law_minus3) {n i j : Nat} {p q : Rat} (hp : Bd i p) (hq : Bd j q) (hl : i + j < 134000000) : callF FT (n + 2) 157 [nv p, nv q] = .ok (nv (p - q), false) := by
  rw [callF_s h rfl, ← minus_eq]
  have e := callF_low3 f128 (n := n) (t := p.num * q.den - q.num * p.den) (b := p.den * q.den) (Int.mul_pos (den_pos p) (den_pos q))
  have m1 : mulOk p.num q.den = true := mul_ok hp.1 hq.2 hl
  have m2 : mulOk q.num p.den = true := mul_ok hq.1 hp.2 (by omega)
  have m3 : mulOk p.den q.den = true := mul_ok hp.2 hq.2 hl
  unfold fd_law_minus3
  walk_at "evh"
theorem callF_times3 (h : FT 145 = some fd_law_times3) {n i j : Nat} {p q : Rat} (hp : Bd i p) (hq : Bd j q) (hl : i + j < 134000000) : callF FT (n + 2) 145 [nv p, nv q] = .ok (nv (p * q), false) := by
  rw [callF_s h rfl, ← times_eq]
  have e := callF_low3 f128 (n := n) (t := p.num * q.num) (b := p.den * q.den) (Int.mul_pos (den_pos p) (den_pos q))
  have m1 : mulOk p.num q.num = true := mul_ok hp.1 hq.1 hl
  have m3 : mulOk p.den q.den = true := mul_ok hp.2 hq.2 hl
  unfold fd_law_times3
  walk_at "evh"
def worthB3 : List S := [.set 2 (.call 156 [(.call 145 [(.nm 2), (.nm 1)]), (.nm 3)])]
theorem worth3_loop (h156 : FT 156 = some fd_law_plus3) (h145 : FT 145 = some fd_law_times3) {n : Nat} {L : Val} {x : Rat} {i k : Nat} (bx : Bd i x) : ∀ (l : List Rat) (s : Rat) (j : Nat) (z : Option (Val × Bool)), BL k l → Bd j s → j + l.length * (i + k + 1) < 130000000 →
    ∃ z', forL (.one 3) (fun env' => evSs (callF FT (n + 2)) worthB3 env') (l.map nv) [some (L, false), some (nv x, false), some (nv s, false), z] = .nx [some (L, false), some (nv x, false), some (nv (l.foldl (fun s a => s * x + a) s), false), z']
  | [], s, j, z, _, hs, _ => ⟨z, rfl⟩
  | a :: l, s, j, z, hl, hs, hb => by
    have ba := hl a List.mem_cons_self
    have e1 : (l.length + 1) * (i + k + 1) = l.length * (i + k + 1) + (i + k + 1) := by rw [Nat.succ_mul]
    have hb : j + (l.length + 1) * (i + k + 1) < 130000000 := hb
    rw [e1] at hb
    have bt := hs.mul bx
    have c1 := callF_times3 f128 h145 (n := n) hs bx (by omega)
    have c2 := callF_plus3 f128 h156 (n := n) bt ba (by omega)
    obtain ⟨z', h2⟩ := worth3_loop h156 h145 (n := n) (L := L) bx l (s * x + a) (j + i + k + 1) (some (nv a, false)) (fun q hq => hl q (List.mem_cons_of_mem _ hq)) (bt.add ba) (by omega)
    refine ⟨z', ?_⟩
    rw [List.foldl_cons, ← h2, List.map_cons]
    refine forL_cons (env1 := [some (L, false), some (nv x, false), some (nv s, false), some (nv a, false)]) rfl ?_
    unfold worthB3
    clear h2 hb e1 bt ba hs hl bx
    walk_at "evh"
theorem callF_worth3 (h156 : FT 156 = some fd_law_plus3) (h145 : FT 145 = some fd_law_times3) (h134 : FT 134 = some fd_law_worth3) {n i k : Nat} {l : List Rat} {x : Rat} (bl : BL k l) (bx : Bd i x) (hb : 1 + l.length * (i + k + 1) < 130000000) : callF FT (n + 3) 134 [cv l, nv x] = .ok (nv (ev l x), false) := by
  rw [callF_s h134 rfl]
  obtain ⟨z', e⟩ := worth3_loop f128 h156 h145 (n := n) (L := cv l) bx l.reverse 0 1 none (fun q hq => bl q (List.mem_reverse.mp hq)) ⟨by decide, by decide⟩ (by rw [List.length_reverse]; exact hb)
  rw [horner] at e
  have eb : fd_law_worth3.body = [.set 2 (.tup [(.cst (.int 0)), (.cst (.int 1))]), .for (.one 3) (.val (.rev (.bor 0))) worthB3, .ret (.nm 2)] := rfl
  rw [eb, show fd_law_worth3.nl = 4 from rfl]
  clear eb hb bl bx
  walk_at "evh"
def numB3 : List S := [.ifs (.or (.not (.isi (.bor 2) [(.ty "tuple")])) (.or (.cmp .ne (.blt .len [(.bor 2)]) (.cst (.int 2))) (.or (.isi (.ix (.bor 2) (.cst (.int 0))) [(.ty "bool")]) (.isi (.ix (.bor 2) (.cst (.int 1))) [(.ty "bool")])))) [.ret (.cst (.bl false))] [], .ifs (.or (.not (.isi (.ix (.bor 2) (.cst (.int 0))) [(.ty "int")])) (.or (.not (.isi (.ix (.bor 2) (.cst (.int 1))) [(.ty "int")])) (.cmp .lt (.ix (.bor 2) (.cst (.int 1))) (.cst (.int 1))))) [.ret (.cst (.bl false))] [], .ifs (.cmp .ne (.call 128 [(.ix (.bor 2) (.cst (.int 0))), (.ix (.bor 2) (.cst (.int 1)))]) (.bor 2)) [.ret (.cst (.bl false))] []]
theorem num3_loop {n : Nat} {x0 x1 : Option (Val × Bool)} : ∀ (l : List Rat) (z : Option (Val × Bool)), ∃ y, forL (.one 2) (fun env' => evSs (callF FT (n + 1)) numB3 env') (l.map nv) [x0, x1, z] = .nx [x0, x1, y]
  | [], z => ⟨z, rfl⟩
  | q :: l, z => by
    obtain ⟨y, e⟩ := num3_loop (n := n) (x0 := x0) (x1 := x1) l (some (nv q, false))
    refine ⟨y, ?_⟩
    have c := callF_low3 f128 (n := n) (t := q.num) (b := q.den) (den_pos q)
    rw [Rat.num_divInt_den] at c
    have hd : ¬ (q.den : Int) < 1 := by have := den_pos q; omega
    have hl : evBf .len [nv q] = .ok (.int 2) := rfl
    rw [List.map_cons, ← e]
    refine forL_cons (env1 := [x0, x1, some (nv q, false)]) rfl ?_
    unfold numB3
    clear e
    walk_at "evh"
theorem callF_numbers3 (h159 : FT 159 = some fd_law_numbers3) {n : Nat} {l : List Rat} {m : Int} (hm : (l.length : Int) = m) : callF FT (n + 2) 159 [lv l, .int m] = .ok (.bl true, false) := by
  subst hm
  rw [callF_s h159 rfl]
  obtain ⟨y, e⟩ := num3_loop f128 (n := n) (x0 := some (lv l, false)) (x1 := some (.int (l.length : Int), false)) l none
  have eb : fd_law_numbers3.body = [.ifs (.or (.not (.isi (.bor 0) [(.ty "list")])) (.cmp .ne (.blt .len [(.bor 0)]) (.bor 1))) [.ret (.cst (.bl false))] [], .for (.one 2) (.val (.nm 0)) numB3, .ret (.cst (.bl true))] := rfl
  rw [eb, show fd_law_numbers3.nl = 3 from rfl]
  clear eb
  walk_at "evh"
end
end
end G

set_option linter.all false
set_option maxHeartbeats 1000000
set_option maxRecDepth 10000
/-! F12: numbers, curves, stretches drawn; mixing numbers summed. -/
namespace G
open PySem
local macro_rules | `(tactic| walk_at "ev") => `(tactic| simp only [vl_nm, vl_bor, vl_cst, vl_bin, vl_neg, vl_cmp, vl_isn, vl_chn, vl_inn, vl_and, vl_or, vl_not, vl_ifx, vl_ix, vl_slc, vl_rev, vl_tup, vl_lst, vl_call, vl_blt, vl_isi, vl_lc, ev_nm, ev_cst, ev_bin, ev_neg, ev_cmp, ev_isn, ev_chn, ev_inn, ev_and, ev_or, ev_not, ev_ifx, ev_ix, ev_slc, ev_rev, ev_tup, ev_lst, ev_call, ev_blt, ev_isi, ev_lc, evEs_nil, evEs_cons, evAs_nil, evAs_cons, evO_none, evO_some, evC_none, evC_some, evIt_val, evIt_rng1, evIt_rng2, evIt_rvd, evT_vl, andR_t, andR_f, orR_f, orR_t, ifxR_t, ifxR_f, chnR_t, chnR_f, ss_nil', ss_cons', thn_nx, thn_ret, thn_exc, thn_bad, s_set', set_ok, set_exc, s_unp', unp_ok, s_ifs', if_t, if_f, s_for', for_ok, s_whl', s_ret', s_retn', s_pass', s_rse', s_exp', s_try', try_nx, try_ret, try_exc, s_par', s_par3', s_six', s_app', s_pop', s_popu', s_rev', rO_ok, rO_exc, ret_nm, ret_bor, ret_cst, ret_bin, ret_neg, ret_cmp, ret_isn, ret_chn, ret_inn, ret_and, ret_or, ret_not, ret_ifx, ret_ix, ret_slc, ret_rev, ret_tup, ret_lst, ret_call, ret_blt, ret_isi, ret_lc, fin_nx, fin_ret, fin_exc, b_add, b_sub, b_mul, b_fdiv, b_mod, p11, p12, p30, p42, p57, p59, b_addL, b_addT, b_mulL, c_lt, c_le, c_gt, c_ge, truth_bl, toI_int, toB_bl, items_lst, items_tup, len_lst, len_tup, len_scr, abs_int, int_int, int_bl, list_lst, list_tup, list_scr, tuple_lst, tuple_tup, max_int, min_int, ix_p0, ix_p1, c_eqI, c_neI, startE, frzE, frzI, frzAll, frz, kept, keptL, keptO, keptI, put, look, lookF, ownL_s, ownS_lst, evCall, lent, borI, bind_one, bind_tup, putAll, isLst_int, isLst_bl, isLst_str, isLst_tup, isLst_non, isLst_scr, isLst_exc, isLst_lst, isNon_int, isNon_bl, isNon_str, isNon_tup, isNon_non, isNon_scr, isNon_exc, isNon_lst, R.bind_ok, R.bind_exc, R.map_ok, R.map_exc, List.map_cons, List.map_nil, List.length_cons, List.length_nil, List.replicate, List.cons_append, List.nil_append, List.append_nil, List.getElem?_cons_zero, List.getElem?_cons_succ, List.set_cons_zero, List.set_cons_succ, Bool.false_and, Bool.true_and, Bool.and_true, Bool.and_false, Bool.or_false, Bool.false_or, Bool.or_true, Bool.true_or, Bool.not_true, Bool.not_false, decide_true, decide_false, if_true, if_false, ite_true, ite_false, reduceCtorEq, reduceIte, Nat.reduceAdd, Nat.reduceSub, Nat.reduceMul, Nat.reduceEqDiff, Int.reduceEq, Int.reduceLT, Int.reduceLE, Int.reduceNe, Int.reduceNeg, Int.reduceAdd, Int.reduceMul, Int.reduceSub, Nat.reduceLT, Nat.reduceLeDiff, Int.reduceGT, Int.reduceGE, is_tup_tuple, is_tup_list, is_tup_int, is_tup_bool, is_tup_str, is_lst_tuple, is_lst_list, is_lst_int, is_lst_bool, is_lst_str, is_int_tuple, is_int_list, is_int_int, is_int_bool, is_int_str, is_bl_tuple, is_bl_list, is_bl_int, is_bl_bool, is_bl_str, is_str_tuple, is_str_list, is_str_int, is_str_bool, is_str_str, is_non_tuple, is_non_list, is_non_int, is_non_bool, is_non_str, forS_ok, forB_nx, forB_ret, forL_nil, lc_nil, Int.cast_ofNat_Int, lc_cons, vlE_d, lenOk0, lenOk1, lenOk2, lenOk3, wipe1, wipe2, R.noexc_ok, decide_eq_true_eq, eq_self, ix_nv0, ix_nv1, is_nv_tuple, is_cv_tuple, is_lv_list, is_lv_tuple, is_cv_list, isLst_nv, isLst_cv, isLst_lv, isNon_nv, isNon_cv, isNon_lv, bind_nv, items_cv, items_lv, len_cv, len_lv, list_cv, list_lv, tuple_cv, tuple_lv, c_eqN, c_neN, c_eqC, c_neC, c_eqL, c_neL, nv01, nv11, cv_nil, cv_one, rev_lv, rev_cv, lv_one, lv_map, cv_map, lenOk_map, List.length_map, ownS_lv, back_bl, back_int, back_nv, back_cv, back_lv, c_eqB, c_neB])
local macro_rules | `(tactic| walk_at "evh") => `(tactic| simp only [vl_nm, vl_bor, vl_cst, vl_bin, vl_neg, vl_cmp, vl_isn, vl_chn, vl_inn, vl_and, vl_or, vl_not, vl_ifx, vl_ix, vl_slc, vl_rev, vl_tup, vl_lst, vl_call, vl_blt, vl_isi, vl_lc, ev_nm, ev_cst, ev_bin, ev_neg, ev_cmp, ev_isn, ev_chn, ev_inn, ev_and, ev_or, ev_not, ev_ifx, ev_ix, ev_slc, ev_rev, ev_tup, ev_lst, ev_call, ev_blt, ev_isi, ev_lc, evEs_nil, evEs_cons, evAs_nil, evAs_cons, evO_none, evO_some, evC_none, evC_some, evIt_val, evIt_rng1, evIt_rng2, evIt_rvd, evT_vl, andR_t, andR_f, orR_f, orR_t, ifxR_t, ifxR_f, chnR_t, chnR_f, ss_nil', ss_cons', thn_nx, thn_ret, thn_exc, thn_bad, s_set', set_ok, set_exc, s_unp', unp_ok, s_ifs', if_t, if_f, s_for', for_ok, s_whl', s_ret', s_retn', s_pass', s_rse', s_exp', s_try', try_nx, try_ret, try_exc, s_par', s_par3', s_six', s_app', s_pop', s_popu', s_rev', rO_ok, rO_exc, ret_nm, ret_bor, ret_cst, ret_bin, ret_neg, ret_cmp, ret_isn, ret_chn, ret_inn, ret_and, ret_or, ret_not, ret_ifx, ret_ix, ret_slc, ret_rev, ret_tup, ret_lst, ret_call, ret_blt, ret_isi, ret_lc, fin_nx, fin_ret, fin_exc, b_add, b_sub, b_mul, b_fdiv, b_mod, p11, p12, p30, p42, p57, p59, b_addL, b_addT, b_mulL, c_lt, c_le, c_gt, c_ge, truth_bl, toI_int, toB_bl, items_lst, items_tup, len_lst, len_tup, len_scr, abs_int, int_int, int_bl, list_lst, list_tup, list_scr, tuple_lst, tuple_tup, max_int, min_int, ix_p0, ix_p1, c_eqI, c_neI, startE, frzE, frzI, frzAll, frz, kept, keptL, keptO, keptI, put, look, lookF, ownL_s, ownS_lst, evCall, lent, borI, bind_one, bind_tup, putAll, isLst_int, isLst_bl, isLst_str, isLst_tup, isLst_non, isLst_scr, isLst_exc, isLst_lst, isNon_int, isNon_bl, isNon_str, isNon_tup, isNon_non, isNon_scr, isNon_exc, isNon_lst, R.bind_ok, R.bind_exc, R.map_ok, R.map_exc, List.map_cons, List.map_nil, List.length_cons, List.length_nil, List.replicate, List.cons_append, List.nil_append, List.append_nil, List.getElem?_cons_zero, List.getElem?_cons_succ, List.set_cons_zero, List.set_cons_succ, Bool.false_and, Bool.true_and, Bool.and_true, Bool.and_false, Bool.or_false, Bool.false_or, Bool.or_true, Bool.true_or, Bool.not_true, Bool.not_false, decide_true, decide_false, if_true, if_false, ite_true, ite_false, reduceCtorEq, reduceIte, Nat.reduceAdd, Nat.reduceSub, Nat.reduceMul, Nat.reduceEqDiff, Int.reduceEq, Int.reduceLT, Int.reduceLE, Int.reduceNe, Int.reduceNeg, Int.reduceAdd, Int.reduceMul, Int.reduceSub, Nat.reduceLT, Nat.reduceLeDiff, Int.reduceGT, Int.reduceGE, is_tup_tuple, is_tup_list, is_tup_int, is_tup_bool, is_tup_str, is_lst_tuple, is_lst_list, is_lst_int, is_lst_bool, is_lst_str, is_int_tuple, is_int_list, is_int_int, is_int_bool, is_int_str, is_bl_tuple, is_bl_list, is_bl_int, is_bl_bool, is_bl_str, is_str_tuple, is_str_list, is_str_int, is_str_bool, is_str_str, is_non_tuple, is_non_list, is_non_int, is_non_bool, is_non_str, forS_ok, forB_nx, forB_ret, forL_nil, lc_nil, Int.cast_ofNat_Int, lc_cons, vlE_d, lenOk0, lenOk1, lenOk2, lenOk3, wipe1, wipe2, R.noexc_ok, decide_eq_true_eq, eq_self, ix_nv0, ix_nv1, is_nv_tuple, is_cv_tuple, is_lv_list, is_lv_tuple, is_cv_list, isLst_nv, isLst_cv, isLst_lv, isNon_nv, isNon_cv, isNon_lv, bind_nv, items_cv, items_lv, len_cv, len_lv, list_cv, list_lv, tuple_cv, tuple_lv, c_eqN, c_neN, c_eqC, c_neC, c_eqL, c_neL, nv01, nv11, cv_nil, cv_one, rev_lv, rev_cv, lv_one, lv_map, cv_map, lenOk_map, List.length_map, ownS_lv, back_bl, back_int, back_nv, back_cv, back_lv, c_eqB, c_neB, *])
section
variable {FT : Nat → Option FD}
variable (f128 : FT 128 = some fd_law_low3)
include f128
theorem callF_number3 (h129 : FT 129 = some fd_law_number3) {n : Nat} {c : Int} (c0 : 0 ≤ c) : ∃ q, callF FT (n + 2) 129 [.int c] = .ok (nv q, false) ∧ Bd 11 q := by
  have b4 := fmod_bd c (b := 4) (by decide)
  obtain ⟨s, hs, z, rfl, z0, z1⟩ := ix_pick (xs := [.int 4, .int 9, .int 30, .int 1000]) (p := fun v => ∃ z, v = .int z ∧ 0 < z ∧ z ≤ 1000) b4.1 b4.2 (by
    intro x hx
    simp only [List.mem_cons, List.not_mem_nil, or_false] at hx
    rcases hx with rfl | rfl | rfl | rfl <;> exact ⟨_, rfl, by decide, by decide⟩)
  have b6 := fmod_bd (c.fdiv 65536) (b := 4) (by decide)
  obtain ⟨s2, hs2, w, rfl, w0, w1⟩ := ix_pick (xs := [.int 1, .int 3, .int 6, .int 12]) (p := fun v => ∃ z, v = .int z ∧ 0 < z ∧ z ≤ 12) b6.1 b6.2 (by
    intro x hx
    simp only [List.mem_cons, List.not_mem_nil, or_false] at hx
    rcases hx with rfl | rfl | rfl | rfl <;> exact ⟨_, rfl, by decide, by decide⟩)
  have m1 : mulOk 2 z = true := mul_small (m := 2) (n := 10) (by decide) (natAbs_lt_pow (by omega) (by omega)) (by decide)
  have hz : ¬ 2 * z + 1 = 0 := by omega
  have hw : ¬ w = 0 := by omega
  have bt := fmod_bd (c.fdiv 4) (b := 2 * z + 1) (by omega)
  have bb := fmod_bd (c.fdiv 8192) (b := w) (by omega)
  have e := callF_low3 f128 (n := n) (t := (c.fdiv 4).fmod (2 * z + 1) - z) (b := 1 + (c.fdiv 8192).fmod w) (by omega)
  refine ⟨Rat.divInt ((c.fdiv 4).fmod (2 * z + 1) - z) (1 + (c.fdiv 8192).fmod w), ?_, .divInt (by omega) (natAbs_lt_pow (by omega) (by omega)) (natAbs_lt_pow (by omega) (by omega))⟩
  rw [callF_s h129 rfl]
  unfold fd_law_number3
  clear b4 b6 bt bb c0 z0 z1 w0 w1
  walk_at "evh"
theorem cut3_loop {cl : Nat → List Val → R (Val × Bool)} {x0 x1 x2 x4 : Option (Val × Bool)} : ∀ (n : Nat) (l : List Rat), l.length ≤ n →
    whlO cl (.and (.cmp .gt (.blt .len [(.bor 3)]) (.cst (.int 0))) (.cmp .eq (.ix (.ix (.bor 3) (.neg (.cst (.int 1)))) (.cst (.int 0))) (.cst (.int 0)))) [.pop 3] [x0, x1, x2, some (lv l, true), x4] = .nx [x0, x1, x2, some (lv (trim l), true), x4] := fun n l hl => by
  rcases List.eq_nil_or_concat l with rfl | ⟨t, a, rfl⟩
  · have e1 : decide ((0 : Int) < (([] : List Rat).length : Int)) = false := rfl
    exact whlO_f (by walk_at "evh")
  · rw [List.concat_eq_append] at hl ⊢
    have e0 : (0 : Int) < ((t ++ [a]).length : Int) := by rw [List.length_append]; show (0 : Int) < ((t.length + 1 : Nat) : Int); omega
    have e1 := ix_last (l := t) (q := a) (L := lv (t ++ [a])) (.inl rfl)
    rw [trim_snoc]
    by_cases h : a = 0
    · rw [if_pos h]
      cases n with
      | zero => simp at hl
      | succ n =>
        rw [← cut3_loop (cl := cl) (x0 := x0) (x1 := x1) (x2 := x2) (x4 := x4) n t (by simp at hl; omega)]
        have e3 : decide (a.num = 0) = true := decide_eq_true (num_zero.mpr h)
        have e4 : ((t ++ [a]).map nv).isEmpty = false := by cases t <;> rfl
        have e5 : ((t ++ [a]).map nv).dropLast = t.map nv := by rw [List.map_append]; simp
        clear h hl
        exact whlO_t (by walk_at "evh") (by walk_at "evh")
    · rw [if_neg h]
      have e3 : decide (a.num = 0) = false := decide_eq_false fun z => h (num_zero.mp z)
      exact whlO_f (by clear h hl; walk_at "evh")
theorem callF_curve3 (h129 : FT 129 = some fd_law_number3) (h155 : FT 155 = some fd_law_cell3) (h136 : FT 136 = some fd_law_curve3) {n : Nat} {ns : List Int} (hs : Sml ns) {k d : Int} (k0 : 0 ≤ k) (k1 : k < 1000) (d0 : 0 ≤ d) (d1 : d ≤ 100) : ∃ l, callF FT (n + 3) 136 [.scr ns, .int k, .int d] = .ok (cv l, false) ∧ Trim l ∧ (l.length : Int) ≤ d + 1 ∧ BL 11 l := by
  obtain ⟨l, hl, hp, e⟩ := lcR_ex (cl := callF FT (n + 2)) (tg := .one 4) (env := [some (.scr ns, false), some (.int k, false), some (.int d, false), none, none]) (cond := none) (el := .call 129 [(.call 155 [(.nm 0), (.bin .add (.bor 1) (.bor 4))])]) (p := fun _ q => Bd 11 q) (m := (d + 1).toNat) (lo := 0) (by omega) (fun i hi => by
    have ck := callF_cell h155 (n := n + 1) hs (k := k + (0 + i)) (by omega) (by omega)
    obtain ⟨q, e3, bq⟩ := callF_number3 f128 h129 (n := n) (c := cx ns (k + (0 + i))) (cx_bd ns _).1
    refine ⟨_, q, rfl, rfl, ?_, bq⟩
    clear bq hs
    walk_at "evh")
  refine ⟨trim l, ?_, trim_trim l, by have := trim_len l; omega, fun q hq => by
    obtain ⟨i, hi⟩ := List.mem_iff_getElem?.mp (trim_mem hq)
    exact hp i q hi⟩
  rw [callF_s h136 rfl]
  have r : rngOk (d + 1) = true := rng_ok (by omega)
  have c := cut3_loop f128 (cl := callF FT (n + 2)) (x0 := some (.scr ns, false)) (x1 := some (.int k, false)) (x2 := some (.int d, false)) (x4 := none) l.length l (Nat.le_refl _)
  unfold fd_law_curve3
  clear hp hs hl
  walk_at "evh"
theorem callF_stretch3 (h129 : FT 129 = some fd_law_number3) (h155 : FT 155 = some fd_law_cell3) (h156 : FT 156 = some fd_law_plus3) (h160 : FT 160 = some fd_law_stretch3) {n : Nat} {ns : List Int} (hs : Sml ns) {k : Int} (k0 : 0 ≤ k) (k1 : k < 1000) : ∃ a b, callF FT (n + 3) 160 [.scr ns, .int k] = .ok (.tup [nv a, nv b], false) ∧ a < b ∧ Bd 25 a ∧ Bd 25 b := by
  have c1 := callF_cell h155 (n := n + 1) hs (k := k) (by omega) (by omega)
  have c2 := callF_cell h155 (n := n + 1) hs (k := k + 1) (by omega) (by omega)
  have hc := cx_bd ns (k + 1)
  have hd : 0 ≤ (cx ns (k + 1)).fdiv 3 := Int.fdiv_nonneg hc.1 (by decide)
  obtain ⟨a, e1, ba⟩ := callF_number3 f128 h129 (n := n) (c := cx ns k) (cx_bd ns k).1
  obtain ⟨w, e2, bw⟩ := callF_number3 f128 h129 (n := n) (c := (cx ns (k + 1)).fdiv 3) hd
  have main : ∃ v : Rat, 0 < v ∧ Bd 12 v ∧ callF FT (n + 3) 160 [.scr ns, .int k] = .ok (.tup [nv a, nv (a + v)], false) := by
    rw [callF_s h160 rfl]
    unfold fd_law_stretch3
    by_cases h : w.num < 1
    · have e3 := callF_low3 f128 (n := n + 1) (t := 1 - w.num) (b := w.den) (den_pos w)
      have hv : 0 < Rat.divInt (1 - w.num) w.den := by
        rw [Rat.divInt_eq_div, Rat.intCast_natCast]
        have h1 : (0 : Rat) < ((1 - w.num : Int) : Rat) := Rat.intCast_pos.mpr (by omega)
        have h2 : (0 : Rat) < ((w.den : Nat) : Rat) := Rat.natCast_pos.mpr w.den_pos
        rw [Rat.div_def]
        exact Rat.mul_pos h1 (Rat.inv_pos.mpr h2)
      have bv : Bd 12 (Rat.divInt (1 - w.num) w.den) := .divInt (by decide) (natAbs_sub_lt (n := 11) (by decide) bw.1) (by rw [Int.natAbs_natCast]; exact pow_up bw.2 (by decide))
      generalize Rat.divInt (1 - w.num) w.den = v at *
      have e4 := callF_plus3 f128 h156 (n := n) ba bv (by decide)
      refine ⟨v, hv, bv, ?_⟩
      clear hs ba bw bv hv hc hd
      walk_at "evh"
    · have hv : 0 < w := by
        have h1 : (0 : Rat) < ((w.num : Int) : Rat) := Rat.intCast_pos.mpr (by omega)
        have h2 : (0 : Rat) < ((w.den : Nat) : Rat) := Rat.natCast_pos.mpr w.den_pos
        have h3 := Rat.num_divInt_den w
        rw [Rat.divInt_eq_div, Rat.intCast_natCast] at h3
        rw [← h3, Rat.div_def]
        exact Rat.mul_pos h1 (Rat.inv_pos.mpr h2)
      have e4 := callF_plus3 f128 h156 (n := n) ba bw (by decide)
      refine ⟨w, hv, bw.mono (by decide), ?_⟩
      clear hs ba bw hv hc hd
      walk_at "evh"
  obtain ⟨v, hv, bv, e⟩ := main
  exact ⟨a, a + v, e, by grind, ba.mono (by decide), (ba.add bv).mono (by decide)⟩
def mixI3 : List S := [.ifs (.cmp .lt (.bor 7) (.bor 5)) [.set 6 (.call 145 [(.nm 6), (.nm 1)])] [.set 6 (.call 145 [(.nm 6), (.call 157 [(.tup [(.cst (.int 1)), (.cst (.int 1))]), (.nm 1)])])]]
def mixO3 : List S := [.set 6 (.call 145 [(.ix (.bor 0) (.bor 5)), (.tup [(.nm 4), (.cst (.int 1))])]), .for (.one 7) (.rng1 (.bor 2)) mixI3, .set 3 (.call 156 [(.nm 3), (.nm 6)]), .set 4 (.bin .fdiv (.bin .mul (.bor 4) (.bin .sub (.bor 2) (.bor 5))) (.bin .add (.bor 5) (.cst (.int 1))))]
theorem mix3_in (h145 : FT 145 = some fd_law_times3) (h157 : FT 157 = some fd_law_minus3) {n k s : Nat} {t : Rat} {x0 x2 x3 x4 : Option (Val × Bool)} (bt : Bd s t) (hs : s ≤ 1000000) : ∀ (d j : Nat) (q : Rat) (B : Nat) (z7 : Option (Val × Bool)), Bd B q → j + d ≤ 13 → B + d * (s + 2) ≤ 100000000 →
    ∃ y7, forL (.one 7) (fun env' => evSs (callF FT (n + 2)) mixI3 env') (rngV j d) [x0, some (nv t, false), x2, x3, x4, some (.int k, false), some (nv q, false), z7] = .nx [x0, some (nv t, false), x2, x3, x4, some (.int k, false), some (nv (q * t ^ (min k (j + d) - j) * (1 - t) ^ (d - (min k (j + d) - j))), false), y7] ∧ Bd (B + d * (s + 2)) (q * t ^ (min k (j + d) - j) * (1 - t) ^ (d - (min k (j + d) - j)))
  | 0, j, q, B, z7, bq, _, _ => by
    have e : min k (j + 0) - j = 0 := by omega
    rw [e, Rat.pow_zero]
    have e2 : q * 1 * (1 - t) ^ (0 - 0) = q := by rw [show (0 - 0 : Nat) = 0 from rfl, Rat.pow_zero]; grind
    rw [e2]
    exact ⟨z7, rfl, by simpa using bq⟩
  | d + 1, j, q, B, z7, bq, hj, hB => by
    have em : (d + 1) * (s + 2) = d * (s + 2) + (s + 2) := Nat.succ_mul _ _
    rw [em] at hB ⊢
    have b1 : Bd 1 (1 : Rat) := ⟨by decide, by decide⟩
    have c1 := callF_minus3 f128 h157 (n := n) b1 bt (by omega)
    by_cases h : j < k
    · have hi : (j : Int) < k := by omega
      have c2 := callF_times3 f128 h145 (n := n) bq bt (by omega)
      obtain ⟨y7, e1, e2⟩ := mix3_in h145 h157 (n := n) (k := k) (x0 := x0) (x2 := x2) (x3 := x3) (x4 := x4) bt hs d (j + 1) (q * t) (B + s) (some (.int j, false)) (bq.mul bt) (by omega) (by omega)
      have ee : q * t * t ^ (min k (j + 1 + d) - (j + 1)) * (1 - t) ^ (d - (min k (j + 1 + d) - (j + 1))) = q * t ^ (min k (j + (d + 1)) - j) * (1 - t) ^ (d + 1 - (min k (j + (d + 1)) - j)) := by
        have h1 : min k (j + (d + 1)) - j = (min k (j + 1 + d) - (j + 1)) + 1 := by omega
        have h2 : d + 1 - (min k (j + (d + 1)) - j) = d - (min k (j + 1 + d) - (j + 1)) := by omega
        rw [h2, h1, Rat.pow_succ]; grind
      rw [ee] at e1 e2
      refine ⟨y7, ?_, e2.mono (by omega)⟩
      rw [rngV_succ, show (j : Int) + 1 = ((j + 1 : Nat) : Int) by omega, ← e1]
      refine forL_cons (env1 := [x0, some (nv t, false), x2, x3, x4, some (.int k, false), some (nv q, false), some (.int j, false)]) rfl ?_
      unfold mixI3
      clear e1 e2 ee bq b1 bt hB em
      walk_at "evh"
    · have hi : ¬ (j : Int) < k := by omega
      have c2 := callF_times3 f128 h145 (n := n) bq (b1.sub bt) (by omega)
      obtain ⟨y7, e1, e2⟩ := mix3_in h145 h157 (n := n) (k := k) (x0 := x0) (x2 := x2) (x3 := x3) (x4 := x4) bt hs d (j + 1) (q * (1 - t)) (B + (s + 2)) (some (.int j, false)) ((bq.mul (b1.sub bt)).mono (by omega)) (by omega) (by omega)
      have ee : q * (1 - t) * t ^ (min k (j + 1 + d) - (j + 1)) * (1 - t) ^ (d - (min k (j + 1 + d) - (j + 1))) = q * t ^ (min k (j + (d + 1)) - j) * (1 - t) ^ (d + 1 - (min k (j + (d + 1)) - j)) := by
        have h1 : min k (j + (d + 1)) - j = 0 := by omega
        have h2 : min k (j + 1 + d) - (j + 1) = 0 := by omega
        have h3 : d + 1 - 0 = d + 1 := rfl
        rw [h1, h2, h3, Rat.pow_zero, Nat.sub_zero, Rat.pow_succ]; grind
      rw [ee] at e1 e2
      refine ⟨y7, ?_, e2.mono (by omega)⟩
      rw [rngV_succ, show (j : Int) + 1 = ((j + 1 : Nat) : Int) by omega, ← e1]
      refine forL_cons (env1 := [x0, some (nv t, false), x2, x3, x4, some (.int k, false), some (nv q, false), some (.int j, false)]) rfl ?_
      unfold mixI3
      clear e1 e2 ee bq b1 bt hB em
      walk_at "evh"
omit f128 in
theorem nv_nat {w : Nat} : Val.tup [.int (w : Int), .int 1] = nv ((w : Nat) : Rat) := by
  unfold nv
  rw [Rat.num_natCast, Rat.den_natCast]; rfl
omit f128 in
theorem bd_nat {w m : Nat} (h : w < 2 ^ m) (hm : 1 ≤ m) : Bd m ((w : Nat) : Rat) := by
  refine ⟨by rw [Rat.num_natCast, Int.natAbs_natCast]; exact h, by rw [Rat.den_natCast]; exact Nat.one_lt_two_pow (by omega)⟩
theorem mix3_out (h145 : FT 145 = some fd_law_times3) (h156 : FT 156 = some fd_law_plus3) (h157 : FT 157 = some fd_law_minus3) {n N s B : Nat} {t : Rat} {b : List Rat} (hN : N ≤ 12) (bt : Bd s t) (hs : s ≤ 300000) (bb : BL (B + 1) b) (hB : B ≤ 5000000) (hl : b.length = N + 1) : ∀ (d k : Nat) (z5 z6 z7 : Option (Val × Bool)), k + d ≤ N + 1 → Bd (1 + k * (B + N * (s + 2) + 20)) (sm (fun k => (ch N k : Rat) * co b k * t ^ k * (1 - t) ^ (N - k)) k) →
    ∃ y4 y5 y6 y7, forL (.one 5) (fun env' => evSs (callF FT (n + 2)) mixO3 env') (rngV k d) [some (lv b, false), some (nv t, false), some (.int N, false), some (nv (sm (fun k => (ch N k : Rat) * co b k * t ^ k * (1 - t) ^ (N - k)) k), false), some (.int (ch N k), false), z5, z6, z7] = .nx [some (lv b, false), some (nv t, false), some (.int N, false), some (nv (sm (fun k => (ch N k : Rat) * co b k * t ^ k * (1 - t) ^ (N - k)) (k + d)), false), y4, y5, y6, y7]
  | 0, k, z5, z6, z7, _, _ => ⟨_, _, _, _, rfl⟩
  | d + 1, k, z5, z6, z7, h, bs => by
    have hk : k ≤ N := by omega
    have hkb : k < b.length := by omega
    have bw : Bd 13 ((ch N k : Nat) : Rat) := bd_nat (ch_bd hN) (by decide)
    have c1 := callF_times3 f128 h145 (n := n) (bb.co k) bw (by omega)
    have bq := (bb.co k).mul bw
    have hns : N * (s + 2) ≤ 12 * 300002 := Nat.mul_le_mul hN (by omega)
    obtain ⟨y7, g1, g2⟩ := mix3_in f128 h145 h157 (n := n) (k := k) (x0 := some (lv b, false)) (x2 := some (.int N, false)) (x3 := some (nv (sm (fun k => (ch N k : Rat) * co b k * t ^ k * (1 - t) ^ (N - k)) k), false)) (x4 := some (.int (ch N k), false)) bt (by omega) N 0 (co b k * ((ch N k : Nat) : Rat)) (B + 1 + 13) z7 bq (by omega) (by omega)
    have em : min k (0 + N) - 0 = k := by omega
    rw [em] at g1 g2
    have ee : co b k * ((ch N k : Nat) : Rat) * t ^ k * (1 - t) ^ (N - k) = (ch N k : Rat) * co b k * t ^ k * (1 - t) ^ (N - k) := by rw [Rat.mul_comm (co b k)]
    rw [ee] at g1 g2
    have hks : k * (B + N * (s + 2) + 20) ≤ 12 * (5000000 + 12 * 300002 + 20) := Nat.mul_le_mul (by omega) (by omega)
    have c2 := callF_plus3 f128 h156 (n := n) bs g2 (by omega)
    have ix : evIx (lv b) (.int (k : Int)) = .ok (nv (co b k)) := ix_lvN rfl (co_get hkb)
    have m : mulOk (ch N k) ((N : Int) - k) = true := mul_small (m := 13) (n := 13) (by rw [Int.natAbs_natCast]; exact ch_bd hN) (natAbs_lt_pow (by omega) (by omega)) (by decide)
    have hz : ¬ (k : Int) + 1 = 0 := by omega
    have hd : ((ch N k : Int) * ((N : Int) - k)).fdiv ((k : Int) + 1) = (ch N (k + 1) : Int) := by
      have h1 := ch_next N k
      have h2 : (ch N k : Int) * ((N : Int) - k) = (ch N (k + 1) : Int) * ((k : Int) + 1) := by
        have : ((N - k : Nat) : Int) = (N : Int) - k := by omega
        rw [← this]
        have h3 : ((ch N (k + 1) * (k + 1) : Nat) : Int) = ((ch N k * (N - k) : Nat) : Int) := by rw [h1]
        rw [Int.natCast_mul, Int.natCast_mul] at h3
        rw [← h3]; rfl
      rw [h2, Int.mul_fdiv_cancel _ (by omega)]
    have bn : Bd (1 + (k + 1) * (B + N * (s + 2) + 20)) (sm (fun k => (ch N k : Rat) * co b k * t ^ k * (1 - t) ^ (N - k)) (k + 1)) := by
      rw [sm_succ]
      exact (bs.add g2).mono (by rw [Nat.succ_mul]; omega)
    obtain ⟨y4, y5, y6, y7', e⟩ := mix3_out h145 h156 h157 (n := n) hN bt hs bb hB hl d (k + 1) (some (.int k, false)) (some (nv ((ch N k : Rat) * co b k * t ^ k * (1 - t) ^ (N - k)), false)) y7 (by omega) bn
    have ej : k + 1 + d = k + (d + 1) := by omega
    rw [ej] at e
    refine ⟨y4, y5, y6, y7', ?_⟩
    rw [rngV_succ, show (k : Int) + 1 = ((k + 1 : Nat) : Int) by omega, ← e]
    have es : sm (fun k => (ch N k : Rat) * co b k * t ^ k * (1 - t) ^ (N - k)) k + (ch N k : Rat) * co b k * t ^ k * (1 - t) ^ (N - k) = sm (fun k => (ch N k : Rat) * co b k * t ^ k * (1 - t) ^ (N - k)) (k + 1) := rfl
    rw [es] at c2
    refine forL_cons (env1 := [some (lv b, false), some (nv t, false), some (.int N, false), some (nv (sm (fun k => (ch N k : Rat) * co b k * t ^ k * (1 - t) ^ (N - k)) k), false), some (.int (ch N k), false), some (.int k, false), z6, z7]) rfl ?_
    generalize sm (fun k => (ch N k : Rat) * co b k * t ^ k * (1 - t) ^ (N - k)) (k + 1) = S1 at *
    generalize sm (fun k => (ch N k : Rat) * co b k * t ^ k * (1 - t) ^ (N - k)) k = S0 at *
    have r : rngOk (N : Int) = true := rng_ok (by omega)
    have et : (N : Int).toNat = N := Int.toNat_natCast _
    have nn := nv_nat (w := ch N k)
    have g1 : forL (.one 7) (fun env' => evSs (callF FT (n + 2)) mixI3 env') (rngV 0 N) [some (lv b, false), some (nv t, false), some (.int N, false), some (nv S0, false), some (.int (ch N k), false), some (.int k, false), some (nv (co b k * ((ch N k : Nat) : Rat)), false), z7] = _ := g1
    generalize (ch N k : Rat) * co b k * t ^ k * (1 - t) ^ (N - k) = T at *
    unfold mixO3
    clear e bn es bq bw g2 bs bt bb hns hks ee em hkb hk hB hs hl
    walk_at "evh"
theorem callF_mix3 (h145 : FT 145 = some fd_law_times3) (h156 : FT 156 = some fd_law_plus3) (h157 : FT 157 = some fd_law_minus3) (h158 : FT 158 = some fd_law_mix3) {n N s B : Nat} {t : Rat} {b : List Rat} (hN : N ≤ 12) (bt : Bd s t) (hs : s ≤ 300000) (bb : BL (B + 1) b) (hB : B ≤ 5000000) (hl : b.length = N + 1) : callF FT (n + 3) 158 [lv b, nv t] = .ok (nv (bsum t N (co b)), false) := by
  rw [callF_s h158 rfl]
  obtain ⟨y4, y5, y6, y7, e⟩ := mix3_out f128 h145 h156 h157 (n := n) hN bt hs bb hB hl (N + 1) 0 none none none (by omega) ⟨by rw [Nat.zero_mul]; exact (by decide : (0 : Rat).num.natAbs < 2 ^ (1 + 0)), by rw [Nat.zero_mul]; exact (by decide : (0 : Rat).den < 2 ^ (1 + 0))⟩
  rw [Nat.zero_add, ch_zero] at e
  have e : forL (.one 5) (fun env' => evSs (callF FT (n + 2)) mixO3 env') (rngV 0 (N + 1)) [some (lv b, false), some (nv t, false), some (.int N, false), some (nv 0, false), some (.int 1, false), none, none, none] = _ := e
  have eB : sm (fun k => (ch N k : Rat) * co b k * t ^ k * (1 - t) ^ (N - k)) (N + 1) = bsum t N (co b) := rfl
  rw [eB] at e
  have r : rngOk ((N : Int) + 1) = true := rng_ok (by omega)
  have et : ((N : Int) + 1).toNat = N + 1 := by omega
  have el : (b.length : Int) - 1 = N := by omega
  have eb : fd_law_mix3.body = [.set 2 (.bin .sub (.blt .len [(.bor 0)]) (.cst (.int 1))), .set 3 (.tup [(.cst (.int 0)), (.cst (.int 1))]), .set 4 (.cst (.int 1)), .for (.one 5) (.rng1 (.bin .add (.bor 2) (.cst (.int 1)))) mixO3, .ret (.nm 3)] := rfl
  rw [eb, show fd_law_mix3.nl = 8 from rfl]
  clear eb bt bb hB hs hl eB
  generalize N + 1 = M at e et ⊢
  walk_at "evh"
end
end G

set_option linter.all false
set_option maxHeartbeats 1000000
set_option maxRecDepth 10000
/-! F13: facts that the laws about mixing numbers share. -/
namespace G
open PySem
theorem sml_of {ns : List Int} (hl : ns.length ≤ 63) (hb : ∀ z ∈ ns, Builtin.Int.intBits z ≤ 1048576) : Sml ns := ⟨hl, fun z hz => by
  have h := hb z hz
  unfold Builtin.Int.intBits at h
  by_cases h0 : z = 0
  · subst h0; exact Nat.two_pow_pos _
  · have : z.natAbs.log2 < 1048577 := by
      split at h
      · rename_i h1; simp at h1; omega
      · omega
    exact (Nat.log2_lt (by omega)).mp this⟩
theorem bn_at0 : ∀ {n : Nat} {b : Nat → Rat}, bn 0 n b = b 0
  | 0, b => rfl
  | n + 1, b => by
    show (1 - 0) * bn 0 n b + 0 * bn 0 n (fun k => b (k + 1)) = b 0
    rw [bn_at0]; grind
theorem bn_at1 : ∀ {n : Nat} {b : Nat → Rat}, bn 1 n b = b n
  | 0, b => rfl
  | n + 1, b => by
    show (1 - 1) * bn 1 n b + 1 * bn 1 n (fun k => b (k + 1)) = b (n + 1)
    rw [bn_at1 (b := fun k => b (k + 1))]; grind
/-- the mixing numbers that mixed tells -/
def mixP (l : List Rat) (a b : Rat) (N : Nat) : List Rat := seg (mxn (onP l a b) N) 0 (N + 1)
theorem mixP_len {l : List Rat} {a b : Rat} {N : Nat} : (mixP l a b N).length = N + 1 := seg_len
theorem co_seg {f : Nat → Rat} {k d : Nat} (h : k < d) : co (seg f 0 d) k = f k := by
  unfold co seg
  simp [h]
theorem co_mixP {l : List Rat} {a b : Rat} {N k : Nat} (h : k ≤ N) : co (mixP l a b N) k = mxn (onP l a b) N k := co_seg (by omega)
theorem bn_mixP {l : List Rat} {a b t : Rat} {N : Nat} (tl : Trim l) (hab : a < b) (h : l.length ≤ N + 1) : bn t N (co (mixP l a b N)) = ev l (a + t * (b - a)) := by
  rw [bn_ext (c := mxn (onP l a b) N) fun k hk => co_mixP hk, mxn_bn (by rw [on_len tl]; exact h), ev_on hab]
theorem mixP_0 {l : List Rat} {a b : Rat} {N : Nat} (tl : Trim l) (hab : a < b) (h : l.length ≤ N + 1) : co (mixP l a b N) 0 = ev l a := by
  have e := bn_mixP (t := 0) tl hab h
  rw [bn_at0] at e
  rw [e]; congr 1; grind
theorem mixP_1 {l : List Rat} {a b : Rat} {N : Nat} (tl : Trim l) (hab : a < b) (h : l.length ≤ N + 1) : co (mixP l a b N) N = ev l b := by
  have e := bn_mixP (t := 1) tl hab h
  rw [bn_at1] at e
  rw [e]; congr 1; grind
theorem ix_lvc {l : List Rat} {k : Nat} (h : k < l.length) : evIx (lv l) (.int (k : Int)) = .ok (nv (co l k)) := ix_lvN rfl (co_get h)
theorem ix_lv0 {l : List Rat} (h : 0 < l.length) : evIx (lv l) (.int 0) = .ok (nv (co l 0)) := ix_lvN (k := 0) rfl (co_get h)
theorem ix_lvL {l : List Rat} {n : Nat} (h : l.length = n + 1) : evIx (lv l) (.int (-1)) = .ok (nv (co l n)) := by
  rcases List.eq_nil_or_concat l with rfl | ⟨t, a, rfl⟩
  · simp at h
  · rw [List.concat_eq_append] at h ⊢
    rw [ix_last (.inl rfl)]
    have : t.length = n := by simp at h; omega
    unfold co
    simp [← this]
end G

set_option linter.all false
set_option maxHeartbeats 1000000
/-! M6: mixing numbers cut, raised, told back; between. -/
namespace G
/-! ### two steps mixed in and in, with any weights -/
def gn (x y : Rat) : Nat → (Nat → Rat) → Rat
  | 0, b => b 0
  | n + 1, b => x * gn x y n b + y * gn x y n (fun k => b (k + 1))
theorem gn_succ {x y : Rat} {n : Nat} {b : Nat → Rat} : gn x y (n + 1) b = x * gn x y n b + y * gn x y n (fun k => b (k + 1)) := rfl
theorem gn_ext {x y : Rat} : ∀ {n : Nat} {b c : Nat → Rat}, (∀ k ≤ n, b k = c k) → gn x y n b = gn x y n c
  | 0, b, c, h => h 0 (Nat.le_refl _)
  | n + 1, b, c, h => by rw [gn_succ, gn_succ, gn_ext fun k hk => h k (by omega), gn_ext fun k hk => h (k + 1) (by omega)]
theorem gn_add {x y : Rat} : ∀ {n : Nat} {b c : Nat → Rat}, gn x y n (fun k => b k + c k) = gn x y n b + gn x y n c
  | 0, b, c => rfl
  | n + 1, b, c => by
    rw [gn_succ, gn_succ, gn_succ, gn_add, gn_add (b := fun k => b (k + 1)) (c := fun k => c (k + 1))]; grind
theorem gn_mul {x y a : Rat} : ∀ {n : Nat} {b : Nat → Rat}, gn x y n (fun k => a * b k) = a * gn x y n b
  | 0, b => rfl
  | n + 1, b => by
    rw [gn_succ, gn_succ, gn_mul, gn_mul (b := fun k => b (k + 1))]; grind
/-- one step, as numbers -/
def ms (x y : Rat) (b : Nat → Rat) : Nat → Rat := fun k => x * b k + y * b (k + 1)
theorem gn_ms {x y u v : Rat} {n : Nat} {b : Nat → Rat} : gn x y n (ms u v b) = u * gn x y n b + v * gn x y n (fun k => b (k + 1)) := by
  unfold ms
  rw [gn_add, gn_mul, gn_mul (b := fun k => b (k + 1))]
theorem gn_step {x y : Rat} {n : Nat} {b : Nat → Rat} : gn x y (n + 1) b = gn x y n (ms x y b) := by rw [gn_ms]; rfl
theorem bn_gn {t : Rat} : ∀ {n : Nat} {b : Nat → Rat}, bn t n b = gn (1 - t) t n b
  | 0, b => rfl
  | n + 1, b => by rw [gn_succ, ← bn_gn, ← bn_gn]; rfl
/-- the sum with numbers of ways -/
def gsum (x y : Rat) (n : Nat) (b : Nat → Rat) : Rat := sm (fun k => (ch n k : Rat) * b k * y ^ k * x ^ (n - k)) (n + 1)
theorem gsum_gn {x y : Rat} : ∀ (n : Nat) (b : Nat → Rat), gsum x y n b = gn x y n b
  | 0, b => by
    show 0 + ((1 : Nat) : Rat) * b 0 * y ^ 0 * x ^ 0 = b 0
    rw [Rat.pow_zero, Rat.pow_zero, nc1]; grind
  | n + 1, b => by
    rw [gn_succ, ← gsum_gn n b, ← gsum_gn n (fun k => b (k + 1))]
    unfold gsum
    have hA : x * sm (fun k => (ch n k : Rat) * b k * y ^ k * x ^ (n - k)) (n + 1) = sm (fun k => (ch n k : Rat) * b k * y ^ k * x ^ (n + 1 - k)) (n + 1) := by
      rw [← sm_mul]
      refine sm_ext fun k hk => ?_
      have : n + 1 - k = (n - k) + 1 := by omega
      rw [this, Rat.pow_succ]; grind
    have hB : y * sm (fun k => (ch n k : Rat) * b (k + 1) * y ^ k * x ^ (n - k)) (n + 1) = sm (fun k => (ch n k : Rat) * b (k + 1) * y ^ (k + 1) * x ^ (n - k)) (n + 1) := by
      rw [← sm_mul]
      refine sm_ext fun k hk => ?_
      rw [Rat.pow_succ]; grind
    rw [hA, hB, sm_shift (f := fun k => (ch (n + 1) k : Rat) * b k * y ^ k * x ^ (n + 1 - k)) (n := n + 1), sm_shift (f := fun k => (ch n k : Rat) * b k * y ^ k * x ^ (n + 1 - k)) (n := n)]
    have hC : sm (fun k => (ch (n + 1) (k + 1) : Rat) * b (k + 1) * y ^ (k + 1) * x ^ (n + 1 - (k + 1))) (n + 1) = sm (fun k => (ch n k : Rat) * b (k + 1) * y ^ (k + 1) * x ^ (n - k)) (n + 1) + sm (fun k => (ch n (k + 1) : Rat) * b (k + 1) * y ^ (k + 1) * x ^ (n + 1 - (k + 1))) n := by
      have h1 : sm (fun k => (ch (n + 1) (k + 1) : Rat) * b (k + 1) * y ^ (k + 1) * x ^ (n + 1 - (k + 1))) (n + 1) = sm (fun k => (ch n k : Rat) * b (k + 1) * y ^ (k + 1) * x ^ (n - k) + (ch n (k + 1) : Rat) * b (k + 1) * y ^ (k + 1) * x ^ (n + 1 - (k + 1))) (n + 1) := sm_ext fun k hk => by
        have : n + 1 - (k + 1) = n - k := by omega
        rw [ch_succ, Rat.natCast_add, this]; grind
      rw [h1, sm_add]
      congr 1
      rw [sm_succ, ch_out (show n < n + 1 by omega), nc0]; grind
    rw [hC, ch_zero, ch_zero]; grind
/-! ### cut -/
theorem bn_ahead {s t : Rat} : ∀ (n : Nat) (b : Nat → Rat), bn s n (fun k => bn t k b) = bn (s * t) n b
  | 0, b => rfl
  | n + 1, b => by
    have e2 : (fun k => bn t (k + 1) b) = fun k => bn t k (ms (1 - t) t b) := by
      funext k
      rw [bn_gn, gn_step, ← bn_gn]
    have h1 := bn_ahead (s := s) (t := t) n b
    have h2 := bn_ahead (s := s) (t := t) n (ms (1 - t) t b)
    show (1 - s) * bn s n (fun k => bn t k b) + s * bn s n (fun k => bn t (k + 1) b) = _
    rw [e2, h1, h2, bn_gn, bn_gn, bn_gn, gn_ms, gn_succ]; grind
theorem bn_behind {s t : Rat} : ∀ (n : Nat) (b : Nat → Rat), bn s n (fun j => bn t (n - j) (fun i => b (i + j))) = bn (t + (1 - t) * s) n b
  | 0, b => rfl
  | n + 1, b => by
    have h1 := bn_behind (s := s) (t := t) n (ms (1 - t) t b)
    have h2 := bn_behind (s := s) (t := t) n (fun k => b (k + 1))
    have e1 : bn s n (fun j => bn t (n + 1 - j) (fun i => b (i + j))) = bn s n (fun j => bn t (n - j) (fun i => ms (1 - t) t b (i + j))) := bn_ext fun j hj => by
      have : n + 1 - j = (n - j) + 1 := by omega
      rw [this, bn_gn, gn_step, ← bn_gn]
      refine bn_ext fun i _ => ?_
      show (1 - t) * b (i + j) + t * b (i + 1 + j) = (1 - t) * b (i + j) + t * b (i + j + 1)
      rw [show i + 1 + j = i + j + 1 by omega]
    have e2 : bn s n (fun j => bn t (n + 1 - (j + 1)) (fun i => b (i + (j + 1)))) = bn s n (fun j => bn t (n - j) (fun i => b (i + j + 1))) := bn_ext fun j hj => by
      have : n + 1 - (j + 1) = n - j := by omega
      rw [this]; rfl
    show (1 - s) * bn s n (fun j => bn t (n + 1 - j) (fun i => b (i + j))) + s * bn s n (fun j => bn t (n + 1 - (j + 1)) (fun i => b (i + (j + 1)))) = _
    rw [e1, e2, h1, h2, bn_gn, bn_gn, bn_gn, gn_ms, gn_succ]; grind
/-! ### raised -/
theorem ch_up (n k : Nat) (h : k ≤ n) : ch (n + 1) (k + 1) * (k + 1) = ch n k * (n + 1) := by
  have h1 := ch_next n k
  rw [ch_succ, Nat.add_mul, h1, ← Nat.mul_add]
  congr 1; omega
theorem ch_stay (n k : Nat) (h : k ≤ n) : ch (n + 1) k * (n + 1 - k) = ch n k * (n + 1) := by
  have h1 := ch_next (n + 1) k
  rw [← h1]
  exact ch_up n k h
/-- one number more -/
def rs (n : Nat) (b : Nat → Rat) (k : Nat) : Rat := b k + ((k : Rat) / ((n + 1 : Nat) : Rat)) * (b (k - 1) - b k)
theorem bn_raised {s : Rat} {n : Nat} {b : Nat → Rat} : bn s (n + 1) (fun k => if k = 0 then b 0 else if k ≤ n then rs n b k else b n) = bn s n b := by
  rw [← bsum_bn, ← bsum_bn]
  have hn : ((n + 1 : Nat) : Rat) ≠ 0 := natCast_ne (by omega)
  have key : ∀ k, k ≤ n + 1 → (ch (n + 1) k : Rat) * (if k = 0 then b 0 else if k ≤ n then rs n b k else b n) * s ^ k * (1 - s) ^ (n + 1 - k) = (if k ≤ n then (1 - s) * ((ch n k : Rat) * b k * s ^ k * (1 - s) ^ (n - k)) else 0) + (if k = 0 then 0 else s * ((ch n (k - 1) : Rat) * b (k - 1) * s ^ (k - 1) * (1 - s) ^ (n - (k - 1)))) := by
    intro k hk
    cases k with
    | zero =>
      have e : n + 1 - 0 = (n - 0) + 1 := by omega
      rw [if_pos rfl, if_pos (Nat.zero_le _), if_pos rfl, ch_zero, ch_zero, e, Rat.pow_succ]; grind
    | succ j =>
      have hj : j ≤ n := by omega
      have h1 : ((ch (n + 1) (j + 1) : Nat) : Rat) * ((j + 1 : Nat) : Rat) = (ch n j : Rat) * ((n + 1 : Nat) : Rat) := by
        rw [← Rat.natCast_mul, ← Rat.natCast_mul, ch_up n j hj]
      have e : n + 1 - (j + 1) = n - j := by omega
      have e2 : j + 1 - 1 = j := by omega
      rw [if_neg (show ¬ j + 1 = 0 by omega), if_neg (show ¬ j + 1 = 0 by omega), e, e2, Rat.pow_succ]
      by_cases h : j + 1 ≤ n
      · rw [if_pos h, if_pos h]
        have h3 : ((ch (n + 1) (j + 1) : Nat) : Rat) * ((n + 1 - (j + 1) : Nat) : Rat) = (ch n (j + 1) : Rat) * ((n + 1 : Nat) : Rat) := by
          rw [← Rat.natCast_mul, ← Rat.natCast_mul, ch_stay n (j + 1) h]
        have h4 : ((n + 1 - (j + 1) : Nat) : Rat) = ((n + 1 : Nat) : Rat) - ((j + 1 : Nat) : Rat) := by
          have : ((n + 1 : Nat) : Rat) = ((n + 1 - (j + 1) : Nat) : Rat) + ((j + 1 : Nat) : Rat) := by rw [← Rat.natCast_add]; congr 1; omega
          rw [this]; grind
        rw [h4] at h3
        have e3 : n - j = (n - (j + 1)) + 1 := by omega
        rw [e3, Rat.pow_succ]
        unfold rs
        rw [e2]
        generalize ((n + 1 : Nat) : Rat) = N at *
        generalize ((j + 1 : Nat) : Rat) = J at *
        generalize ((ch (n + 1) (j + 1) : Nat) : Rat) = c at *
        generalize ((ch n j : Nat) : Rat) = c0 at *
        generalize ((ch n (j + 1) : Nat) : Rat) = c1 at *
        have g0 : c0 = c * J / N := by grind
        have g1 : c1 = c * (N - J) / N := by grind
        rw [g0, g1]
        grind
      · have hjn : j = n := by omega
        subst hjn
        rw [if_neg h, if_neg h]
        have : ch (j + 1) (j + 1) = 1 := ch_self _
        have h5 : ch j j = 1 := ch_self _
        rw [this, h5]; grind
  unfold bsum
  rw [sm_ext fun k hk => key k (by omega), sm_add]
  have hA : sm (fun k => if k ≤ n then (1 - s) * ((ch n k : Rat) * b k * s ^ k * (1 - s) ^ (n - k)) else 0) (n + 1 + 1) = (1 - s) * sm (fun k => (ch n k : Rat) * b k * s ^ k * (1 - s) ^ (n - k)) (n + 1) := by
    rw [sm_succ, if_neg (by omega), ← sm_mul]
    rw [sm_ext (g := fun k => (1 - s) * ((ch n k : Rat) * b k * s ^ k * (1 - s) ^ (n - k))) fun k hk => if_pos (by omega)]
    grind
  have hB : sm (fun k => if k = 0 then 0 else s * ((ch n (k - 1) : Rat) * b (k - 1) * s ^ (k - 1) * (1 - s) ^ (n - (k - 1)))) (n + 1 + 1) = s * sm (fun k => (ch n k : Rat) * b k * s ^ k * (1 - s) ^ (n - k)) (n + 1) := by
    rw [sm_shift, if_pos rfl, ← sm_mul]
    rw [sm_ext (g := fun k => s * ((ch n k : Rat) * b k * s ^ k * (1 - s) ^ (n - k))) fun k hk => by rw [if_neg (by omega)]; rfl]
    grind
  rw [hA, hB]; grind
/-! ### told back -/
/-- unlike steps in and in -/
def df (j : Nat) (b : Nat → Rat) : Rat := gn (-1) 1 j b
theorem bn_df {t : Rat} : ∀ (n : Nat) (b : Nat → Rat), bn t n b = gn 1 t n (fun j => df j b)
  | 0, b => rfl
  | n + 1, b => by
    have h1 := bn_df (t := t) n b
    have h2 := bn_df (t := t) n (ms (-1) 1 b)
    have e : (fun j => df (j + 1) b) = fun j => df j (ms (-1) 1 b) := by
      funext j; exact gn_step
    rw [gn_succ, e, ← h1, ← h2, bn_gn, bn_gn, bn_gn, gn_ms, gn_succ]; grind
theorem one_pow : ∀ k : Nat, (1 : Rat) ^ k = 1
  | 0 => Rat.pow_zero _
  | k + 1 => by rw [Rat.pow_succ, one_pow k]; grind
/-- the powers of numbers mixed -/
def pw (n : Nat) (b : Nat → Rat) (j : Nat) : Rat := (ch n j : Rat) * df j b
theorem ev_seg {f : Nat → Rat} {n : Nat} {x : Rat} : ev (seg f 0 n) x = sm (fun k => f k * x ^ k) n := by
  rw [ev_sm, seg_len]
  refine sm_ext fun k hk => ?_
  have : co (seg f 0 n) k = f k := by unfold co seg; simp [hk]
  rw [this]
theorem ev_pw {t : Rat} {n : Nat} {b : Nat → Rat} : ev (seg (pw n b) 0 (n + 1)) t = bn t n b := by
  rw [ev_seg, bn_df, ← gsum_gn]
  unfold gsum pw
  exact sm_ext fun k hk => by rw [one_pow]; grind
/-- numbers that mix alike are alike -/
theorem bn_inj {n : Nat} {b c : Nat → Rat} (h : ∀ t, bn t n b = bn t n c) : ∀ k ≤ n, b k = c k := by
  have h1 : ∀ t, ev (seg (fun j => pw n b j - pw n c j) 0 (n + 1)) t = 0 := fun t => by
    have h2 := h t
    rw [← ev_pw, ← ev_pw, ev_seg, ev_seg] at h2
    rw [ev_seg]
    have e : sm (fun k => (pw n b k - pw n c k) * t ^ k) (n + 1) = sm (fun k => pw n b k * t ^ k + (-1) * (pw n c k * t ^ k)) (n + 1) := sm_ext fun k hk => by grind
    rw [e, sm_add, sm_mul, h2]; grind
  have h3 := ev_zero h1
  have h4 : ∀ j ≤ n, df j b = df j c := fun j hj => by
    have hm : pw n b j - pw n c j ∈ seg (fun j => pw n b j - pw n c j) 0 (n + 1) := by
      unfold seg
      exact List.mem_map.mpr ⟨j, List.mem_range.mpr (by omega), by rw [Nat.zero_add]⟩
    have h5 := h3 _ hm
    unfold pw at h5
    have hc : (ch n j : Rat) ≠ 0 := natCast_ne (ch_pos hj)
    grind
  have at1 : ∀ (k : Nat) (b : Nat → Rat), bn 1 k b = b k := by
    intro k
    induction k with
    | zero => intro b; rfl
    | succ k ih =>
      intro b
      show (1 - 1) * bn 1 k b + 1 * bn 1 k (fun k => b (k + 1)) = b (k + 1)
      rw [ih (fun k => b (k + 1))]; grind
  intro k hk
  rw [← at1 k b, ← at1 k c, bn_df, bn_df]
  exact gn_ext fun j hj => h4 j (by omega)
/-- the same, as the sum the program makes -/
theorem df_sum {j : Nat} {b : Nat → Rat} : df j b = sm (fun i => ((ch j i : Rat) * (-1) ^ (j - i)) * b i) (j + 1) := by
  unfold df
  rw [← gsum_gn]
  unfold gsum
  exact sm_ext fun k hk => by rw [one_pow]; grind
/-! ### between -/
theorem bn_low {t : Rat} (t0 : 0 ≤ t) (t1 : t ≤ 1) : ∀ (n : Nat) (b : Nat → Rat), ∃ k ≤ n, b k ≤ bn t n b
  | 0, b => ⟨0, Nat.le_refl _, Rat.le_refl⟩
  | n + 1, b => by
    obtain ⟨k, hk, h1⟩ := bn_low t0 t1 n b
    obtain ⟨j, hj, h2⟩ := bn_low t0 t1 n (fun k => b (k + 1))
    show ∃ k, k ≤ n + 1 ∧ b k ≤ (1 - t) * bn t n b + t * bn t n (fun k => b (k + 1))
    have h2 : b (j + 1) ≤ bn t n (fun k => b (k + 1)) := h2
    generalize bn t n b = B at *
    generalize bn t n (fun k => b (k + 1)) = C at *
    by_cases h : B ≤ C
    · refine ⟨k, by omega, ?_⟩
      have : 0 ≤ t * (C - B) := Rat.mul_nonneg t0 (by grind)
      grind
    · refine ⟨j + 1, by omega, ?_⟩
      have : 0 ≤ (1 - t) * (B - C) := Rat.mul_nonneg (by grind) (by grind)
      grind
theorem bn_neg {t : Rat} {n : Nat} {b : Nat → Rat} : bn t n (fun k => - b k) = - bn t n b := by
  have := bn_mul (t := t) (a := -1) (n := n) (b := b)
  rw [bn_ext (c := fun k => -1 * b k) fun k _ => by grind, this]; grind
theorem bn_high {t : Rat} (t0 : 0 ≤ t) (t1 : t ≤ 1) (n : Nat) (b : Nat → Rat) : ∃ k ≤ n, bn t n b ≤ b k := by
  obtain ⟨k, hk, h⟩ := bn_low t0 t1 n (fun k => - b k)
  rw [bn_neg] at h
  exact ⟨k, hk, by grind⟩
end G

set_option linter.all false
set_option maxHeartbeats 1000000
set_option maxRecDepth 10000
/-! F14: mixed in and in, cut, raised. -/
namespace G
open PySem
local macro_rules | `(tactic| walk_at "ev") => `(tactic| simp only [vl_nm, vl_bor, vl_cst, vl_bin, vl_neg, vl_cmp, vl_isn, vl_chn, vl_inn, vl_and, vl_or, vl_not, vl_ifx, vl_ix, vl_slc, vl_rev, vl_tup, vl_lst, vl_call, vl_blt, vl_isi, vl_lc, ev_nm, ev_cst, ev_bin, ev_neg, ev_cmp, ev_isn, ev_chn, ev_inn, ev_and, ev_or, ev_not, ev_ifx, ev_ix, ev_slc, ev_rev, ev_tup, ev_lst, ev_call, ev_blt, ev_isi, ev_lc, evEs_nil, evEs_cons, evAs_nil, evAs_cons, evO_none, evO_some, evC_none, evC_some, evIt_val, evIt_rng1, evIt_rng2, evIt_rvd, evT_vl, andR_t, andR_f, orR_f, orR_t, ifxR_t, ifxR_f, chnR_t, chnR_f, ss_nil', ss_cons', thn_nx, thn_ret, thn_exc, thn_bad, s_set', set_ok, set_exc, s_unp', unp_ok, s_ifs', if_t, if_f, s_for', for_ok, s_whl', s_ret', s_retn', s_pass', s_rse', s_exp', s_try', try_nx, try_ret, try_exc, s_par', s_par3', s_six', s_app', s_pop', s_popu', s_rev', rO_ok, rO_exc, ret_nm, ret_bor, ret_cst, ret_bin, ret_neg, ret_cmp, ret_isn, ret_chn, ret_inn, ret_and, ret_or, ret_not, ret_ifx, ret_ix, ret_slc, ret_rev, ret_tup, ret_lst, ret_call, ret_blt, ret_isi, ret_lc, fin_nx, fin_ret, fin_exc, b_add, b_sub, b_mul, b_fdiv, b_mod, p11, p12, p30, p42, p57, p59, b_addL, b_addT, b_mulL, c_lt, c_le, c_gt, c_ge, truth_bl, toI_int, toB_bl, items_lst, items_tup, len_lst, len_tup, len_scr, abs_int, int_int, int_bl, list_lst, list_tup, list_scr, tuple_lst, tuple_tup, max_int, min_int, ix_p0, ix_p1, c_eqI, c_neI, startE, frzE, frzI, frzAll, frz, kept, keptL, keptO, keptI, put, look, lookF, ownL_s, ownS_lst, evCall, lent, borI, bind_one, bind_tup, putAll, isLst_int, isLst_bl, isLst_str, isLst_tup, isLst_non, isLst_scr, isLst_exc, isLst_lst, isNon_int, isNon_bl, isNon_str, isNon_tup, isNon_non, isNon_scr, isNon_exc, isNon_lst, R.bind_ok, R.bind_exc, R.map_ok, R.map_exc, List.map_cons, List.map_nil, List.length_cons, List.length_nil, List.replicate, List.cons_append, List.nil_append, List.append_nil, List.getElem?_cons_zero, List.getElem?_cons_succ, List.set_cons_zero, List.set_cons_succ, Bool.false_and, Bool.true_and, Bool.and_true, Bool.and_false, Bool.or_false, Bool.false_or, Bool.or_true, Bool.true_or, Bool.not_true, Bool.not_false, decide_true, decide_false, if_true, if_false, ite_true, ite_false, reduceCtorEq, reduceIte, Nat.reduceAdd, Nat.reduceSub, Nat.reduceMul, Nat.reduceEqDiff, Int.reduceEq, Int.reduceLT, Int.reduceLE, Int.reduceNe, Int.reduceNeg, Int.reduceAdd, Int.reduceMul, Int.reduceSub, Nat.reduceLT, Nat.reduceLeDiff, Int.reduceGT, Int.reduceGE, is_tup_tuple, is_tup_list, is_tup_int, is_tup_bool, is_tup_str, is_lst_tuple, is_lst_list, is_lst_int, is_lst_bool, is_lst_str, is_int_tuple, is_int_list, is_int_int, is_int_bool, is_int_str, is_bl_tuple, is_bl_list, is_bl_int, is_bl_bool, is_bl_str, is_str_tuple, is_str_list, is_str_int, is_str_bool, is_str_str, is_non_tuple, is_non_list, is_non_int, is_non_bool, is_non_str, forS_ok, forB_nx, forB_ret, forL_nil, lc_nil, Int.cast_ofNat_Int, lc_cons, vlE_d, lenOk0, lenOk1, lenOk2, lenOk3, wipe1, wipe2, R.noexc_ok, decide_eq_true_eq, eq_self, ix_nv0, ix_nv1, is_nv_tuple, is_cv_tuple, is_lv_list, is_lv_tuple, is_cv_list, isLst_nv, isLst_cv, isLst_lv, isNon_nv, isNon_cv, isNon_lv, bind_nv, items_cv, items_lv, len_cv, len_lv, list_cv, list_lv, tuple_cv, tuple_lv, c_eqN, c_neN, c_eqC, c_neC, c_eqL, c_neL, nv01, nv11, cv_nil, cv_one, rev_lv, rev_cv, lv_one, lv_map, cv_map, lenOk_map, List.length_map, ownS_lv, back_bl, back_int, back_nv, back_cv, back_lv, c_eqB, c_neB])
local macro_rules | `(tactic| walk_at "evh") => `(tactic| simp only [vl_nm, vl_bor, vl_cst, vl_bin, vl_neg, vl_cmp, vl_isn, vl_chn, vl_inn, vl_and, vl_or, vl_not, vl_ifx, vl_ix, vl_slc, vl_rev, vl_tup, vl_lst, vl_call, vl_blt, vl_isi, vl_lc, ev_nm, ev_cst, ev_bin, ev_neg, ev_cmp, ev_isn, ev_chn, ev_inn, ev_and, ev_or, ev_not, ev_ifx, ev_ix, ev_slc, ev_rev, ev_tup, ev_lst, ev_call, ev_blt, ev_isi, ev_lc, evEs_nil, evEs_cons, evAs_nil, evAs_cons, evO_none, evO_some, evC_none, evC_some, evIt_val, evIt_rng1, evIt_rng2, evIt_rvd, evT_vl, andR_t, andR_f, orR_f, orR_t, ifxR_t, ifxR_f, chnR_t, chnR_f, ss_nil', ss_cons', thn_nx, thn_ret, thn_exc, thn_bad, s_set', set_ok, set_exc, s_unp', unp_ok, s_ifs', if_t, if_f, s_for', for_ok, s_whl', s_ret', s_retn', s_pass', s_rse', s_exp', s_try', try_nx, try_ret, try_exc, s_par', s_par3', s_six', s_app', s_pop', s_popu', s_rev', rO_ok, rO_exc, ret_nm, ret_bor, ret_cst, ret_bin, ret_neg, ret_cmp, ret_isn, ret_chn, ret_inn, ret_and, ret_or, ret_not, ret_ifx, ret_ix, ret_slc, ret_rev, ret_tup, ret_lst, ret_call, ret_blt, ret_isi, ret_lc, fin_nx, fin_ret, fin_exc, b_add, b_sub, b_mul, b_fdiv, b_mod, p11, p12, p30, p42, p57, p59, b_addL, b_addT, b_mulL, c_lt, c_le, c_gt, c_ge, truth_bl, toI_int, toB_bl, items_lst, items_tup, len_lst, len_tup, len_scr, abs_int, int_int, int_bl, list_lst, list_tup, list_scr, tuple_lst, tuple_tup, max_int, min_int, ix_p0, ix_p1, c_eqI, c_neI, startE, frzE, frzI, frzAll, frz, kept, keptL, keptO, keptI, put, look, lookF, ownL_s, ownS_lst, evCall, lent, borI, bind_one, bind_tup, putAll, isLst_int, isLst_bl, isLst_str, isLst_tup, isLst_non, isLst_scr, isLst_exc, isLst_lst, isNon_int, isNon_bl, isNon_str, isNon_tup, isNon_non, isNon_scr, isNon_exc, isNon_lst, R.bind_ok, R.bind_exc, R.map_ok, R.map_exc, List.map_cons, List.map_nil, List.length_cons, List.length_nil, List.replicate, List.cons_append, List.nil_append, List.append_nil, List.getElem?_cons_zero, List.getElem?_cons_succ, List.set_cons_zero, List.set_cons_succ, Bool.false_and, Bool.true_and, Bool.and_true, Bool.and_false, Bool.or_false, Bool.false_or, Bool.or_true, Bool.true_or, Bool.not_true, Bool.not_false, decide_true, decide_false, if_true, if_false, ite_true, ite_false, reduceCtorEq, reduceIte, Nat.reduceAdd, Nat.reduceSub, Nat.reduceMul, Nat.reduceEqDiff, Int.reduceEq, Int.reduceLT, Int.reduceLE, Int.reduceNe, Int.reduceNeg, Int.reduceAdd, Int.reduceMul, Int.reduceSub, Nat.reduceLT, Nat.reduceLeDiff, Int.reduceGT, Int.reduceGE, is_tup_tuple, is_tup_list, is_tup_int, is_tup_bool, is_tup_str, is_lst_tuple, is_lst_list, is_lst_int, is_lst_bool, is_lst_str, is_int_tuple, is_int_list, is_int_int, is_int_bool, is_int_str, is_bl_tuple, is_bl_list, is_bl_int, is_bl_bool, is_bl_str, is_str_tuple, is_str_list, is_str_int, is_str_bool, is_str_str, is_non_tuple, is_non_list, is_non_int, is_non_bool, is_non_str, forS_ok, forB_nx, forB_ret, forL_nil, lc_nil, Int.cast_ofNat_Int, lc_cons, vlE_d, lenOk0, lenOk1, lenOk2, lenOk3, wipe1, wipe2, R.noexc_ok, decide_eq_true_eq, eq_self, ix_nv0, ix_nv1, is_nv_tuple, is_cv_tuple, is_lv_list, is_lv_tuple, is_cv_list, isLst_nv, isLst_cv, isLst_lv, isNon_nv, isNon_cv, isNon_lv, bind_nv, items_cv, items_lv, len_cv, len_lv, list_cv, list_lv, tuple_cv, tuple_lv, c_eqN, c_neN, c_eqC, c_neC, c_eqL, c_neL, nv01, nv11, cv_nil, cv_one, rev_lv, rev_cv, lv_one, lv_map, cv_map, lenOk_map, List.length_map, ownS_lv, back_bl, back_int, back_nv, back_cv, back_lv, c_eqB, c_neB, *])
def fd_between : FD := ⟨3, 3, [.ret (.call 4 [(.nm 0), (.call 6 [(.nm 2), (.call 5 [(.nm 1), (.nm 0)])])])]⟩
def fd_mixed_once : FD := ⟨2, 3, [.ret (.lc (.one 2) (.rng1 (.bin .sub (.blt .len [(.bor 0)]) (.cst (.int 1)))) none (.call 31 [(.ix (.bor 0) (.bor 2)), (.ix (.bor 0) (.bin .add (.bor 2) (.cst (.int 1)))), (.nm 1)]))]⟩
def fd_worth_at : FD := ⟨2, 3, [.set 2 (.blt .list [(.bor 0)]), .whl (.cmp .gt (.blt .len [(.bor 2)]) (.cst (.int 1))) [.set 2 (.call 32 [(.nm 2), (.nm 1)])], .ret (.ix (.bor 2) (.cst (.int 0)))]⟩
def fd_cut : FD := ⟨2, 5, [.ifs (.or (.not (.call 2 [(.call 27 [(.cst (.int 0))]), (.bor 1)])) (.not (.call 2 [(.bor 1), (.call 27 [(.cst (.int 1))])]))) [.rse 4] [], .set 2 (.blt .list [(.bor 0)]), .set 3 (.lst [(.ix (.bor 2) (.cst (.int 0)))]), .set 4 (.lst [(.ix (.bor 2) (.neg (.cst (.int 1))))]), .whl (.cmp .gt (.blt .len [(.bor 2)]) (.cst (.int 1))) [.set 2 (.call 32 [(.nm 2), (.nm 1)]), .app 3 (.ix (.bor 2) (.cst (.int 0))), .app 4 (.ix (.bor 2) (.neg (.cst (.int 1))))], .ret (.tup [(.nm 3), (.rev (.bor 4))])]⟩
def fd_raised : FD := ⟨1, 4, [.set 1 (.blt .len [(.bor 0)]), .ifs (.cmp .gt (.bor 1) (.cst (.int 12))) [.rse 3] [], .set 2 (.lst [(.ix (.bor 0) (.cst (.int 0)))]), .for (.one 3) (.rng2 (.cst (.int 1)) (.bor 1)) [.app 2 (.call 31 [(.ix (.bor 0) (.bor 3)), (.ix (.bor 0) (.bin .sub (.bor 3) (.cst (.int 1)))), (.call 1 [(.nm 3), (.nm 1)])])], .ret (.bin .add (.bor 2) (.lst [(.ix (.bor 0) (.neg (.cst (.int 1))))]))]⟩
theorem Bd.pow {s : Nat} {t : Rat} (h : Bd s t) : ∀ k : Nat, Bd (k * s + 1) (t ^ k)
  | 0 => by rw [Rat.pow_zero, Nat.zero_mul]; exact ⟨by decide, by decide⟩
  | k + 1 => by
    rw [Rat.pow_succ, Nat.succ_mul]
    exact ((Bd.pow h k).mul h).mono (by omega)
/-- the size of numbers mixed in and in -/
def bnB (B s : Nat) : Nat := 1 + 13 * (B + 12 * (s + 2) + 17)
theorem Bd.bn {n B s : Nat} {t : Rat} {b : Nat → Rat} (hn : n ≤ 12) (bt : Bd s t) (bb : ∀ k ≤ n, Bd (B + 1) (b k)) : Bd (bnB B s) (bn t n b) := by
  have b1 : Bd 1 (1 : Rat) := ⟨by decide, by decide⟩
  have hterm : ∀ k ≤ n, Bd (B + 12 * (s + 2) + 16) ((ch n k : Rat) * b k * t ^ k * (1 - t) ^ (n - k)) := fun k hk => by
    have bc : Bd 13 ((ch n k : Nat) : Rat) := bd_nat (ch_bd hn) (by decide)
    have h1 := ((bc.mul (bb k hk)).mul (bt.pow k)).mul ((b1.sub bt).pow (n - k))
    refine h1.mono ?_
    have e1 : k * s ≤ k * (s + 2) := Nat.mul_le_mul_left _ (by omega)
    have e2 : k * (s + 2) + (n - k) * (s + 2) ≤ 12 * (s + 2) := by rw [← Nat.add_mul]; exact Nat.mul_le_mul_right _ (by omega)
    have e3 : (n - k) * (1 + s + 1) = (n - k) * (s + 2) := by rw [show 1 + s + 1 = s + 2 by omega]
    rw [e3]; omega
  have hsum : ∀ m, m ≤ n + 1 → Bd (1 + m * (B + 12 * (s + 2) + 17)) (sm (fun k => (ch n k : Rat) * b k * t ^ k * (1 - t) ^ (n - k)) m) := by
    intro m
    induction m with
    | zero => intro _; rw [Nat.zero_mul]; exact (⟨by decide, by decide⟩ : Bd (1 + 0) (0 : Rat))
    | succ m ih =>
      intro hm
      rw [sm_succ, Nat.succ_mul]
      exact ((ih (by omega)).add (hterm m (by omega))).mono (by omega)
  have h := hsum (n + 1) (Nat.le_refl _)
  rw [← bsum_bn]
  refine h.mono ?_
  unfold bnB
  have := Nat.mul_le_mul_right (B + 12 * (s + 2) + 17) (show n + 1 ≤ 13 by omega)
  omega
/-- a row of the numbers mixed in and in -/
def row (t : Rat) (b : Nat → Rat) (n i : Nat) : List Rat := seg (fun j => bn t i fun m => b (m + j)) 0 (n + 1 - i)
theorem row_len {t : Rat} {b : Nat → Rat} {n i : Nat} : (row t b n i).length = n + 1 - i := seg_len
theorem co_row {t : Rat} {b : Nat → Rat} {n i j : Nat} (h : j < n + 1 - i) : co (row t b n i) j = bn t i fun m => b (m + j) := co_seg h
theorem seg_ext {f g : Nat → Rat} {k d : Nat} (h : ∀ j < d, f (k + j) = g (k + j)) : seg f k d = seg g k d := by
  unfold seg
  exact List.map_congr_left fun j hj => h j (List.mem_range.mp hj)
theorem row_0 {t : Rat} {l : List Rat} {n : Nat} (h : l.length = n + 1) : row t (co l) n 0 = l := by
  unfold row
  rw [show n + 1 - 0 = l.length by omega, seg0]
  conv => rhs; rw [list_co (l := l)]
  exact List.map_congr_left fun j _ => by show co l (0 + j) = _; rw [Nat.zero_add]
theorem row_next {t : Rat} {b : Nat → Rat} {n i : Nat} (hi : i < n) : seg (ms (1 - t) t (co (row t b n i))) 0 (n - i) = row t b n (i + 1) := by
  unfold row
  rw [show n + 1 - (i + 1) = n - i by omega]
  refine seg_ext fun j hj => ?_
  rw [Nat.zero_add]
  show (1 - t) * co (row t b n i) j + t * co (row t b n i) (j + 1) = (1 - t) * bn t i (fun m => b (m + j)) + t * bn t i (fun k => b (k + 1 + j))
  rw [co_row (by omega), co_row (by omega)]
  have : (fun m => b (m + (j + 1))) = fun k => b (k + 1 + j) := by funext k; congr 1; omega
  rw [this]
theorem row_last {t : Rat} {b : Nat → Rat} {n : Nat} : co (row t b n n) 0 = bn t n b := by rw [co_row (by omega)]; rfl
theorem BL.seg {B : Nat} {f : Nat → Rat} {k d : Nat} (h : ∀ j < d, Bd B (f (k + j))) : BL B (seg f k d) := fun q hq => by
  obtain ⟨j, hj, rfl⟩ := List.mem_map.mp hq
  exact h j (List.mem_range.mp hj)
theorem BL.row {B s n i : Nat} {t : Rat} {b : Nat → Rat} (hn : n ≤ 12) (hi : i ≤ n) (bt : Bd s t) (bb : ∀ k ≤ n, Bd (B + 1) (b k)) : BL (bnB B s) (row t b n i) := .seg fun j hj => Bd.bn (by omega) bt fun k hk => bb _ (by omega)
def wtB : List S := [.set 2 (.call 32 [(.nm 2), (.nm 1)])]
def cutB : List S := [.set 2 (.call 32 [(.nm 2), (.nm 1)]), .app 3 (.ix (.bor 2) (.cst (.int 0))), .app 4 (.ix (.bor 2) (.neg (.cst (.int 1))))]
def rsB : List S := [.app 2 (.call 31 [(.ix (.bor 0) (.bor 3)), (.ix (.bor 0) (.bin .sub (.bor 3) (.cst (.int 1)))), (.call 1 [(.nm 3), (.nm 1)])])]
section
variable {FT : Nat → Option FD}
variable (h0 : FT 0 = some fd_divisor_of) (h1 : FT 1 = some fd_number) (h4 : FT 4 = some fd_plus) (h5 : FT 5 = some fd_minus) (h6 : FT 6 = some fd_times) (h31 : FT 31 = some fd_between)
include h0 h1 h4 h5 h6 h31
theorem callF_between {n i j s : Nat} {p q t : Rat} (hp : Bd i p) (hq : Bd j q) (ht : Bd s t) (hb : 2 * i + j + s < 130000000) : callF FT (n + 4) 31 [nv p, nv q, nv t] = .ok (nv (p + t * (q - p)), false) := by
  have e1 := callF_minus h0 h1 h5 (n := n) hq hp (by omega)
  have e2 := callF_times h0 h1 h6 (n := n) ht (hq.sub hp) (by omega)
  have e3 := callF_plus h0 h1 h4 (n := n) hp (ht.mul (hq.sub hp)) (by omega)
  rw [callF_s h31 rfl]
  unfold fd_between
  clear hp hq ht hb
  walk_at "evh"
theorem callF_once (h32 : FT 32 = some fd_mixed_once) {n m s B : Nat} {R : List Rat} {t : Rat} (hR : R.length = m + 1) (hm : m ≤ 1000) (bt : Bd s t) (bR : BL (B + 1) R) (hb : 3 * B + s < 120000000) : callF FT (n + 5) 32 [lv R, nv t] = .ok (lv (seg (ms (1 - t) t (co R)) 0 m), true) := by
  rw [callF_s h32 rfl]
  have e : lcR (callF FT (n + 4)) (.ok (rngV 0 m)) (.one 2) none (.call 31 [(.ix (.bor 0) (.bor 2)), (.ix (.bor 0) (.bin .add (.bor 2) (.cst (.int 1)))), (.nm 1)]) [some (lv R, false), some (nv t, false), none] = .ok (lv ((List.range m).map (ms (1 - t) t (co R)))) := lcR_rng (by omega) fun k hk => by
    have c := callF_between h0 h1 h4 h5 h6 h31 (n := n) (bR.co k) (bR.co (k + 1)) bt (by omega)
    have e : co R k + t * (co R (k + 1) - co R k) = ms (1 - t) t (co R) k := by unfold ms; grind
    rw [e] at c
    have i1 := ix_lvc (l := R) (k := k) (by omega)
    have i2 := ix_lvc (l := R) (k := k + 1) (by omega)
    have ez : (0 : Int) + (k : Int) = k := by omega
    have ez2 : (k : Int) + 1 = ((k + 1 : Nat) : Int) := by omega
    clear bt bR hR hm hb e
    walk_at "evh"
  rw [← seg0] at e
  have r : rngOk ((R.length : Int) - 1) = true := rng_ok (by omega)
  have et : ((R.length : Int) - 1).toNat = m := by omega
  unfold fd_mixed_once
  clear bt bR hR hm hb
  walk_at "evh"
theorem wt_loop (h32 : FT 32 = some fd_mixed_once) {N n s B : Nat} {L : Val} {t : Rat} {b : Nat → Rat} (hn : n ≤ 12) (bt : Bd s t) (bb : ∀ k ≤ n, Bd (B + 1) (b k)) (hb : 3 * bnB B s + s < 120000000) : ∀ (d i : Nat), i + d = n →
    whlO (callF FT (N + 5)) (.cmp .gt (.blt .len [(.bor 2)]) (.cst (.int 1))) wtB [some (L, false), some (nv t, false), some (lv (row t b n i), true)] = .nx [some (L, false), some (nv t, false), some (lv (row t b n n), true)]
  | 0, i, h => by
    have hi : i = n := by omega
    subst hi
    have hl : decide ((1 : Int) < ((row t b i i).length : Int)) = false := decide_eq_false (by rw [row_len]; omega)
    exact whlO_f (by clear bt bb hb hn; walk_at "evh")
  | d + 1, i, h => by
    have hl : decide ((1 : Int) < ((row t b n i).length : Int)) = true := decide_eq_true (by rw [row_len]; omega)
    have br := BL.row (i := i) hn (by omega) bt bb
    have c := callF_once h0 h1 h4 h5 h6 h31 h32 (n := N) (m := n - i) (R := row t b n i) (by rw [row_len]; omega) (by omega) bt (B := bnB B s - 1) (br.mono (by unfold bnB; omega)) (by omega)
    rw [row_next (by omega)] at c
    rw [← wt_loop h32 hn bt bb hb (L := L) d (i + 1) (by omega)]
    exact whlO_t (by clear bt bb hb hn br; walk_at "evh") (by unfold wtB; clear bt bb hb hn br; walk_at "evh")
theorem callF_worth_at (h32 : FT 32 = some fd_mixed_once) (h35 : FT 35 = some fd_worth_at) {N n s B : Nat} {l : List Rat} {t : Rat} (hl : l.length = n + 1) (hn : n ≤ 12) (bt : Bd s t) (bl : BL (B + 1) l) (hb : 3 * bnB B s + s < 120000000) : callF FT (N + 6) 35 [lv l, nv t] = .ok (nv (bn t n (co l)), false) := by
  have e := wt_loop h0 h1 h4 h5 h6 h31 h32 (N := N) (L := lv l) (b := co l) hn bt (fun k _ => bl.co k) hb n 0 (by omega)
  rw [row_0 hl] at e
  have i0 := ix_lv0 (l := row t (co l) n n) (by rw [row_len]; omega)
  rw [row_last] at i0
  rw [callF_s h35 rfl]
  have eb : fd_worth_at.body = [.set 2 (.blt .list [(.bor 0)]), .whl (.cmp .gt (.blt .len [(.bor 2)]) (.cst (.int 1))) wtB, .ret (.ix (.bor 2) (.cst (.int 0)))] := rfl
  rw [eb, show fd_worth_at.nl = 3 from rfl]
  clear eb bt bl hb hn hl
  walk_at "evh"
/-! ### cut -/
def ahd (t : Rat) (b : Nat → Rat) (i : Nat) : List Rat := seg (fun k => bn t k b) 0 (i + 1)
def bhd (t : Rat) (b : Nat → Rat) (n i : Nat) : List Rat := seg (fun k => bn t k fun m => b (m + (n - k))) 0 (i + 1)
omit h0 h1 h4 h5 h6 h31 in
theorem seg_more {f : Nat → Rat} {k d : Nat} : seg f k (d + 1) = seg f k d ++ [f (k + d)] := by
  unfold seg
  rw [List.range_succ, List.map_append]; rfl
omit h0 h1 h4 h5 h6 h31 in
theorem ahd_more {t : Rat} {b : Nat → Rat} {i : Nat} : ahd t b (i + 1) = ahd t b i ++ [bn t (i + 1) b] := by
  unfold ahd; rw [seg_more, Nat.zero_add]
omit h0 h1 h4 h5 h6 h31 in
theorem bhd_more {t : Rat} {b : Nat → Rat} {n i : Nat} : bhd t b n (i + 1) = bhd t b n i ++ [bn t (i + 1) fun m => b (m + (n - (i + 1)))] := by
  unfold bhd; rw [seg_more, Nat.zero_add]
theorem cut_loop (h32 : FT 32 = some fd_mixed_once) {N n s B : Nat} {L : Val} {t : Rat} {b : Nat → Rat} (hn : n ≤ 12) (bt : Bd s t) (bb : ∀ k ≤ n, Bd (B + 1) (b k)) (hb : 3 * bnB B s + s < 120000000) : ∀ (d i : Nat), i + d = n →
    whlO (callF FT (N + 5)) (.cmp .gt (.blt .len [(.bor 2)]) (.cst (.int 1))) cutB [some (L, false), some (nv t, false), some (lv (row t b n i), true), some (lv (ahd t b i), true), some (lv (bhd t b n i), true)] = .nx [some (L, false), some (nv t, false), some (lv (row t b n n), true), some (lv (ahd t b n), true), some (lv (bhd t b n n), true)]
  | 0, i, h => by
    have hi : i = n := by omega
    subst hi
    have hl : decide ((1 : Int) < ((row t b i i).length : Int)) = false := decide_eq_false (by rw [row_len]; omega)
    exact whlO_f (by clear bt bb hb hn; walk_at "evh")
  | d + 1, i, h => by
    have hl : decide ((1 : Int) < ((row t b n i).length : Int)) = true := decide_eq_true (by rw [row_len]; omega)
    have br := BL.row (i := i) hn (by omega) bt bb
    have c := callF_once h0 h1 h4 h5 h6 h31 h32 (n := N) (m := n - i) (R := row t b n i) (by rw [row_len]; omega) (by omega) bt (B := bnB B s - 1) (br.mono (by unfold bnB; omega)) (by omega)
    rw [row_next (by omega)] at c
    have i0 := ix_lv0 (l := row t b n (i + 1)) (by rw [row_len]; omega)
    have i1 := ix_lvL (l := row t b n (i + 1)) (n := n - (i + 1)) (by rw [row_len]; omega)
    rw [co_row (by omega)] at i0 i1
    have l1 : lenOk ((ahd t b i).length + 1) = true := lenOk_lit (by unfold ahd; rw [seg_len]; omega)
    have l2 : lenOk ((bhd t b n i).length + 1) = true := lenOk_lit (by unfold bhd; rw [seg_len]; omega)
    have a1 : (ahd t b i).map nv ++ [nv (bn t (i + 1) fun m => b (m + 0))] = (ahd t b (i + 1)).map nv := by rw [ahd_more]; simp
    have a2 : (bhd t b n i).map nv ++ [nv (bn t (i + 1) fun m => b (m + (n - (i + 1))))] = (bhd t b n (i + 1)).map nv := by rw [bhd_more]; simp
    rw [← cut_loop h32 hn bt bb hb (L := L) d (i + 1) (by omega)]
    exact whlO_t (by clear bt bb hb hn br; walk_at "evh") (by unfold cutB; clear bt bb hb hn br; walk_at "evh")
/-- the later part's numbers -/
def bhr (t : Rat) (b : Nat → Rat) (n : Nat) : List Rat := seg (fun j => bn t (n - j) fun m => b (m + j)) 0 (n + 1)
omit h0 h1 h4 h5 h6 h31 in
theorem seg_rev {f : Nat → Rat} : ∀ n : Nat, (seg f 0 (n + 1)).reverse = seg (fun j => f (n - j)) 0 (n + 1)
  | 0 => rfl
  | n + 1 => by
    rw [seg_more, List.reverse_append, List.reverse_singleton, List.singleton_append, seg_rev n, seg_succ (f := fun j => f (n + 1 - j)), Nat.zero_add, Nat.sub_zero]
    congr 1
    unfold seg
    refine List.map_congr_left fun j hj => ?_
    have hj := List.mem_range.mp hj
    show f (n - (0 + j)) = f (n + 1 - (0 + 1 + j))
    congr 1; omega
omit h0 h1 h4 h5 h6 h31 in
theorem bhd_rev {t : Rat} {b : Nat → Rat} {n : Nat} : (bhd t b n n).reverse = bhr t b n := by
  unfold bhd bhr
  rw [seg_rev]
  refine seg_ext fun j hj => ?_
  rw [Nat.zero_add, show n - (n - j) = j by omega]
theorem callF_cut (h2 : FT 2 = some fd_less) (h27 : FT 27 = some fd_of_whole) (h32 : FT 32 = some fd_mixed_once) (h33 : FT 33 = some fd_cut) {N n s B : Nat} {l : List Rat} {t : Rat} (t0 : 0 < t) (t1 : t < 1) (hl : l.length = n + 1) (hn : n ≤ 12) (bt : Bd s t) (bl : BL (B + 1) l) (hb : 3 * bnB B s + s < 120000000) : callF FT (N + 6) 33 [lv l, nv t] = .ok (.tup [lv (ahd t (co l) n), lv (bhr t (co l) n)], false) := by
  have e := cut_loop h0 h1 h4 h5 h6 h31 h32 (N := N) (L := lv l) (b := co l) hn bt (fun k _ => bl.co k) hb n 0 (by omega)
  rw [row_0 hl] at e
  have b0 : Bd 1 (0 : Rat) := ⟨by decide, by decide⟩
  have b1 : Bd 1 (1 : Rat) := ⟨by decide, by decide⟩
  have w0 : callF FT (N + 5) 27 [.int 0] = .ok (nv 0, false) := callF_of_whole h0 h1 h27 (n := N + 2) (z := 0)
  have w1 : callF FT (N + 5) 27 [.int 1] = .ok (nv 1, false) := callF_of_whole h0 h1 h27 (n := N + 2) (z := 1)
  have c0 := callF_less h2 (n := N + 4) b0 bt (by omega)
  have c1 := callF_less h2 (n := N + 4) bt b1 (by omega)
  rw [decide_eq_true t0] at c0
  rw [decide_eq_true t1] at c1
  have i0 := ix_lv0 (l := l) (by omega)
  have i1 := ix_lvL hl
  have a1 : ahd t (co l) 0 = [co l 0] := rfl
  have a2 : bhd t (co l) n 0 = [co l n] := by
    unfold bhd
    rw [seg_more, seg_zero, List.nil_append]
    show [co l (0 + (n - 0))] = _
    rw [Nat.zero_add, Nat.sub_zero]
  have rv := rev_lv (l := bhd t (co l) n n)
  rw [bhd_rev] at rv
  rw [a1, a2] at e
  rw [callF_s h33 rfl]
  have eb : fd_cut.body = [.ifs (.or (.not (.call 2 [(.call 27 [(.cst (.int 0))]), (.bor 1)])) (.not (.call 2 [(.bor 1), (.call 27 [(.cst (.int 1))])]))) [.rse 4] [], .set 2 (.blt .list [(.bor 0)]), .set 3 (.lst [(.ix (.bor 2) (.cst (.int 0)))]), .set 4 (.lst [(.ix (.bor 2) (.neg (.cst (.int 1))))]), .whl (.cmp .gt (.blt .len [(.bor 2)]) (.cst (.int 1))) cutB, .ret (.tup [(.nm 3), (.rev (.bor 4))])] := rfl
  rw [eb, show fd_cut.nl = 5 from rfl]
  clear eb bt bl hb hn hl t0 t1 b0 b1 a1 a2
  walk_at "evh"
/-! ### raised -/
def rsd (b : Nat → Rat) (n : Nat) (k : Nat) : Rat := if k = 0 then b 0 else if k ≤ n then rs n b k else b n
theorem rs_loop {N n B : Nat} {l : List Rat} (hl : l.length = n + 1) (hn : n ≤ 12) (bl : BL (B + 1) l) (hb : 3 * B < 120000000) : ∀ (d k : Nat) (z3 : Option (Val × Bool)), k + 1 + d ≤ n + 1 →
    ∃ y3, forL (.one 3) (fun env' => evSs (callF FT (N + 4)) rsB env') (rngV ((k + 1 : Nat) : Int) d) [some (lv l, false), some (.int ((n : Int) + 1), false), some (lv (seg (rsd (co l) n) 0 (k + 1)), true), z3] = .nx [some (lv l, false), some (.int ((n : Int) + 1), false), some (lv (seg (rsd (co l) n) 0 (k + 1 + d)), true), y3]
  | 0, k, z3, _ => ⟨z3, rfl⟩
  | d + 1, k, z3, h => by
    obtain ⟨y3, e⟩ := rs_loop (N := N) hl hn bl hb d (k + 1) (some (.int ((k + 1 : Nat) : Int), false)) (by omega)
    rw [show k + 1 + 1 + d = k + 1 + (d + 1) by omega] at e
    refine ⟨y3, ?_⟩
    have c1 := callF_number h0 h1 (n := N + 2) (t := ((k + 1 : Nat) : Int)) (b := (n : Int) + 1) (by omega)
    have er : Rat.divInt ((k + 1 : Nat) : Int) ((n : Int) + 1) = ((k + 1 : Nat) : Rat) / ((n + 1 : Nat) : Rat) := by
      rw [Rat.divInt_eq_div, Rat.intCast_natCast, show (n : Int) + 1 = ((n + 1 : Nat) : Int) from rfl, Rat.intCast_natCast]
    have bt : Bd 5 (((k + 1 : Nat) : Rat) / ((n + 1 : Nat) : Rat)) := by rw [← er]; exact .divInt (by decide) (natAbs_lt_pow (by omega) (by omega)) (natAbs_lt_pow (by omega) (by omega))
    rw [er] at c1
    have c2 := callF_between h0 h1 h4 h5 h6 h31 (n := N) (bl.co (k + 1)) (bl.co k) bt (by omega)
    have ee : co l (k + 1) + ((k + 1 : Nat) : Rat) / ((n + 1 : Nat) : Rat) * (co l k - co l (k + 1)) = rsd (co l) n (k + 1) := by
      unfold rsd rs
      rw [if_neg (by omega), if_pos (by omega), show k + 1 - 1 = k by omega]
    rw [ee] at c2
    have i1 := ix_lvc (l := l) (k := k + 1) (by omega)
    have i2 := ix_lvc (l := l) (k := k) (by omega)
    have ek : ((k + 1 : Nat) : Int) - 1 = (k : Int) := by omega
    have lo : lenOk ((seg (rsd (co l) n) 0 (k + 1)).length + 1) = true := lenOk_lit (by rw [seg_len]; omega)
    have ea : (seg (rsd (co l) n) 0 (k + 1)).map nv ++ [nv (rsd (co l) n (k + 1))] = (seg (rsd (co l) n) 0 (k + 1 + 1)).map nv := by rw [seg_more (d := k + 1), Nat.zero_add]; simp
    rw [rngV_succ, show ((k + 1 : Nat) : Int) + 1 = ((k + 1 + 1 : Nat) : Int) by omega, ← e]
    refine forL_cons (env1 := [some (lv l, false), some (.int ((n : Int) + 1), false), some (lv (seg (rsd (co l) n) 0 (k + 1)), true), some (.int ((k + 1 : Nat) : Int), false)]) rfl ?_
    generalize ((k + 1 : Nat) : Rat) / ((n + 1 : Nat) : Rat) = T at *
    generalize seg (rsd (co l) n) 0 (k + 1 + 1) = S1 at *
    generalize seg (rsd (co l) n) 0 (k + 1) = S0 at *
    generalize ((k + 1 : Nat) : Int) = K at *
    unfold rsB
    clear e bt er ee bl hb hn hl
    walk_at "evh"
theorem callF_raised (h34 : FT 34 = some fd_raised) {N n B : Nat} {l : List Rat} (hl : l.length = n + 1) (hn : n ≤ 11) (bl : BL (B + 1) l) (hb : 3 * B < 120000000) : callF FT (N + 5) 34 [lv l] = .ok (lv (seg (rsd (co l) n) 0 (n + 2)), true) := by
  obtain ⟨y3, e⟩ := rs_loop h0 h1 h4 h5 h6 h31 (N := N) hl (by omega) bl hb n 0 none (by omega)
  rw [show 0 + 1 + n = n + 1 by omega] at e
  have e : forL (.one 3) (fun env' => evSs (callF FT (N + 4)) rsB env') (rngV 1 n) [some (lv l, false), some (.int ((n : Int) + 1), false), some (lv [co l 0], true), none] = _ := e
  have ell : (l.length : Int) = (n : Int) + 1 := by omega
  have h12 : ¬ (12 : Int) < (n : Int) + 1 := by omega
  have i0 := ix_lv0 (l := l) (by omega)
  have i1 := ix_lvL hl
  have r : rngOk ((n : Int) + 1) = true := rng_ok (by omega)
  have r1 : rngOk 1 = true := rng_ok (by omega)
  have et : ((n : Int) + 1 - 1).toNat = n := by omega
  have ad := add_lv (a := seg (rsd (co l) n) 0 (n + 1)) (b := [co l n]) (by rw [seg_len]; simp; omega)
  have el : co l n = rsd (co l) n (0 + (n + 1)) := by unfold rsd; rw [if_neg (by omega), if_neg (by omega)]
  have ea : seg (rsd (co l) n) 0 (n + 1) ++ [co l n] = seg (rsd (co l) n) 0 (n + 2) := by rw [seg_more (d := n + 1), ← el]
  rw [ea] at ad
  rw [callF_s h34 rfl]
  have eb : fd_raised.body = [.set 1 (.blt .len [(.bor 0)]), .ifs (.cmp .gt (.bor 1) (.cst (.int 12))) [.rse 3] [], .set 2 (.lst [(.ix (.bor 0) (.cst (.int 0)))]), .for (.one 3) (.rng2 (.cst (.int 1)) (.bor 1)) rsB, .ret (.bin .add (.bor 2) (.lst [(.ix (.bor 0) (.neg (.cst (.int 1))))]))] := rfl
  rw [eb, show fd_raised.nl = 4 from rfl]
  clear eb bl hb hn hl ea el
  generalize seg (rsd (co l) n) 0 (n + 2) = S2 at *
  generalize seg (rsd (co l) n) 0 (n + 1) = S1 at *
  walk_at "evh"
end
end G

set_option linter.all false
set_option maxHeartbeats 1000000
set_option maxRecDepth 10000
/-! F15: mixing numbers told back. -/
namespace G
open PySem
local macro_rules | `(tactic| walk_at "ev") => `(tactic| simp only [vl_nm, vl_bor, vl_cst, vl_bin, vl_neg, vl_cmp, vl_isn, vl_chn, vl_inn, vl_and, vl_or, vl_not, vl_ifx, vl_ix, vl_slc, vl_rev, vl_tup, vl_lst, vl_call, vl_blt, vl_isi, vl_lc, ev_nm, ev_cst, ev_bin, ev_neg, ev_cmp, ev_isn, ev_chn, ev_inn, ev_and, ev_or, ev_not, ev_ifx, ev_ix, ev_slc, ev_rev, ev_tup, ev_lst, ev_call, ev_blt, ev_isi, ev_lc, evEs_nil, evEs_cons, evAs_nil, evAs_cons, evO_none, evO_some, evC_none, evC_some, evIt_val, evIt_rng1, evIt_rng2, evIt_rvd, evT_vl, andR_t, andR_f, orR_f, orR_t, ifxR_t, ifxR_f, chnR_t, chnR_f, ss_nil', ss_cons', thn_nx, thn_ret, thn_exc, thn_bad, s_set', set_ok, set_exc, s_unp', unp_ok, s_ifs', if_t, if_f, s_for', for_ok, s_whl', s_ret', s_retn', s_pass', s_rse', s_exp', s_try', try_nx, try_ret, try_exc, s_par', s_par3', s_six', s_app', s_pop', s_popu', s_rev', rO_ok, rO_exc, ret_nm, ret_bor, ret_cst, ret_bin, ret_neg, ret_cmp, ret_isn, ret_chn, ret_inn, ret_and, ret_or, ret_not, ret_ifx, ret_ix, ret_slc, ret_rev, ret_tup, ret_lst, ret_call, ret_blt, ret_isi, ret_lc, fin_nx, fin_ret, fin_exc, b_add, b_sub, b_mul, b_fdiv, b_mod, p11, p12, p30, p42, p57, p59, b_addL, b_addT, b_mulL, c_lt, c_le, c_gt, c_ge, truth_bl, toI_int, toB_bl, items_lst, items_tup, len_lst, len_tup, len_scr, abs_int, int_int, int_bl, list_lst, list_tup, list_scr, tuple_lst, tuple_tup, max_int, min_int, ix_p0, ix_p1, c_eqI, c_neI, startE, frzE, frzI, frzAll, frz, kept, keptL, keptO, keptI, put, look, lookF, ownL_s, ownS_lst, evCall, lent, borI, bind_one, bind_tup, putAll, isLst_int, isLst_bl, isLst_str, isLst_tup, isLst_non, isLst_scr, isLst_exc, isLst_lst, isNon_int, isNon_bl, isNon_str, isNon_tup, isNon_non, isNon_scr, isNon_exc, isNon_lst, R.bind_ok, R.bind_exc, R.map_ok, R.map_exc, List.map_cons, List.map_nil, List.length_cons, List.length_nil, List.replicate, List.cons_append, List.nil_append, List.append_nil, List.getElem?_cons_zero, List.getElem?_cons_succ, List.set_cons_zero, List.set_cons_succ, Bool.false_and, Bool.true_and, Bool.and_true, Bool.and_false, Bool.or_false, Bool.false_or, Bool.or_true, Bool.true_or, Bool.not_true, Bool.not_false, decide_true, decide_false, if_true, if_false, ite_true, ite_false, reduceCtorEq, reduceIte, Nat.reduceAdd, Nat.reduceSub, Nat.reduceMul, Nat.reduceEqDiff, Int.reduceEq, Int.reduceLT, Int.reduceLE, Int.reduceNe, Int.reduceNeg, Int.reduceAdd, Int.reduceMul, Int.reduceSub, Nat.reduceLT, Nat.reduceLeDiff, Int.reduceGT, Int.reduceGE, is_tup_tuple, is_tup_list, is_tup_int, is_tup_bool, is_tup_str, is_lst_tuple, is_lst_list, is_lst_int, is_lst_bool, is_lst_str, is_int_tuple, is_int_list, is_int_int, is_int_bool, is_int_str, is_bl_tuple, is_bl_list, is_bl_int, is_bl_bool, is_bl_str, is_str_tuple, is_str_list, is_str_int, is_str_bool, is_str_str, is_non_tuple, is_non_list, is_non_int, is_non_bool, is_non_str, forS_ok, forB_nx, forB_ret, forL_nil, lc_nil, Int.cast_ofNat_Int, lc_cons, vlE_d, lenOk0, lenOk1, lenOk2, lenOk3, wipe1, wipe2, R.noexc_ok, decide_eq_true_eq, eq_self, ix_nv0, ix_nv1, is_nv_tuple, is_cv_tuple, is_lv_list, is_lv_tuple, is_cv_list, isLst_nv, isLst_cv, isLst_lv, isNon_nv, isNon_cv, isNon_lv, bind_nv, items_cv, items_lv, len_cv, len_lv, list_cv, list_lv, tuple_cv, tuple_lv, c_eqN, c_neN, c_eqC, c_neC, c_eqL, c_neL, nv01, nv11, cv_nil, cv_one, rev_lv, rev_cv, lv_one, lv_map, cv_map, lenOk_map, List.length_map, ownS_lv, back_bl, back_int, back_nv, back_cv, back_lv, c_eqB, c_neB])
local macro_rules | `(tactic| walk_at "evh") => `(tactic| simp only [vl_nm, vl_bor, vl_cst, vl_bin, vl_neg, vl_cmp, vl_isn, vl_chn, vl_inn, vl_and, vl_or, vl_not, vl_ifx, vl_ix, vl_slc, vl_rev, vl_tup, vl_lst, vl_call, vl_blt, vl_isi, vl_lc, ev_nm, ev_cst, ev_bin, ev_neg, ev_cmp, ev_isn, ev_chn, ev_inn, ev_and, ev_or, ev_not, ev_ifx, ev_ix, ev_slc, ev_rev, ev_tup, ev_lst, ev_call, ev_blt, ev_isi, ev_lc, evEs_nil, evEs_cons, evAs_nil, evAs_cons, evO_none, evO_some, evC_none, evC_some, evIt_val, evIt_rng1, evIt_rng2, evIt_rvd, evT_vl, andR_t, andR_f, orR_f, orR_t, ifxR_t, ifxR_f, chnR_t, chnR_f, ss_nil', ss_cons', thn_nx, thn_ret, thn_exc, thn_bad, s_set', set_ok, set_exc, s_unp', unp_ok, s_ifs', if_t, if_f, s_for', for_ok, s_whl', s_ret', s_retn', s_pass', s_rse', s_exp', s_try', try_nx, try_ret, try_exc, s_par', s_par3', s_six', s_app', s_pop', s_popu', s_rev', rO_ok, rO_exc, ret_nm, ret_bor, ret_cst, ret_bin, ret_neg, ret_cmp, ret_isn, ret_chn, ret_inn, ret_and, ret_or, ret_not, ret_ifx, ret_ix, ret_slc, ret_rev, ret_tup, ret_lst, ret_call, ret_blt, ret_isi, ret_lc, fin_nx, fin_ret, fin_exc, b_add, b_sub, b_mul, b_fdiv, b_mod, p11, p12, p30, p42, p57, p59, b_addL, b_addT, b_mulL, c_lt, c_le, c_gt, c_ge, truth_bl, toI_int, toB_bl, items_lst, items_tup, len_lst, len_tup, len_scr, abs_int, int_int, int_bl, list_lst, list_tup, list_scr, tuple_lst, tuple_tup, max_int, min_int, ix_p0, ix_p1, c_eqI, c_neI, startE, frzE, frzI, frzAll, frz, kept, keptL, keptO, keptI, put, look, lookF, ownL_s, ownS_lst, evCall, lent, borI, bind_one, bind_tup, putAll, isLst_int, isLst_bl, isLst_str, isLst_tup, isLst_non, isLst_scr, isLst_exc, isLst_lst, isNon_int, isNon_bl, isNon_str, isNon_tup, isNon_non, isNon_scr, isNon_exc, isNon_lst, R.bind_ok, R.bind_exc, R.map_ok, R.map_exc, List.map_cons, List.map_nil, List.length_cons, List.length_nil, List.replicate, List.cons_append, List.nil_append, List.append_nil, List.getElem?_cons_zero, List.getElem?_cons_succ, List.set_cons_zero, List.set_cons_succ, Bool.false_and, Bool.true_and, Bool.and_true, Bool.and_false, Bool.or_false, Bool.false_or, Bool.or_true, Bool.true_or, Bool.not_true, Bool.not_false, decide_true, decide_false, if_true, if_false, ite_true, ite_false, reduceCtorEq, reduceIte, Nat.reduceAdd, Nat.reduceSub, Nat.reduceMul, Nat.reduceEqDiff, Int.reduceEq, Int.reduceLT, Int.reduceLE, Int.reduceNe, Int.reduceNeg, Int.reduceAdd, Int.reduceMul, Int.reduceSub, Nat.reduceLT, Nat.reduceLeDiff, Int.reduceGT, Int.reduceGE, is_tup_tuple, is_tup_list, is_tup_int, is_tup_bool, is_tup_str, is_lst_tuple, is_lst_list, is_lst_int, is_lst_bool, is_lst_str, is_int_tuple, is_int_list, is_int_int, is_int_bool, is_int_str, is_bl_tuple, is_bl_list, is_bl_int, is_bl_bool, is_bl_str, is_str_tuple, is_str_list, is_str_int, is_str_bool, is_str_str, is_non_tuple, is_non_list, is_non_int, is_non_bool, is_non_str, forS_ok, forB_nx, forB_ret, forL_nil, lc_nil, Int.cast_ofNat_Int, lc_cons, vlE_d, lenOk0, lenOk1, lenOk2, lenOk3, wipe1, wipe2, R.noexc_ok, decide_eq_true_eq, eq_self, ix_nv0, ix_nv1, is_nv_tuple, is_cv_tuple, is_lv_list, is_lv_tuple, is_cv_list, isLst_nv, isLst_cv, isLst_lv, isNon_nv, isNon_cv, isNon_lv, bind_nv, items_cv, items_lv, len_cv, len_lv, list_cv, list_lv, tuple_cv, tuple_lv, c_eqN, c_neN, c_eqC, c_neC, c_eqL, c_neL, nv01, nv11, cv_nil, cv_one, rev_lv, rev_cv, lv_one, lv_map, cv_map, lenOk_map, List.length_map, ownS_lv, back_bl, back_int, back_nv, back_cv, back_lv, c_eqB, c_neB, *])
def fd_unmixed : FD := ⟨3, 9, [.exp (.call 25 [(.nm 1), (.nm 2)]), .set 3 (.bin .sub (.blt .len [(.bor 0)]) (.cst (.int 1))), .set 4 (.lst []), .for (.one 5) (.rng1 (.bin .add (.bor 3) (.cst (.int 1)))) [.set 6 (.call 27 [(.cst (.int 0))]), .for (.one 7) (.rng1 (.bin .add (.bor 5) (.cst (.int 1)))) [.set 8 (.bin .mul (.call 26 [(.nm 5), (.nm 7)]) (.bin .sub (.cst (.int 1)) (.bin .mul (.cst (.int 2)) (.bin .mod (.bin .sub (.bor 5) (.bor 7)) (.cst (.int 2)))))), .set 6 (.call 4 [(.nm 6), (.call 6 [(.call 27 [(.nm 8)]), (.ix (.bor 0) (.bor 7))])])], .app 4 (.call 6 [(.call 27 [(.call 26 [(.nm 3), (.nm 5)])]), (.nm 6)])], .ret (.call 18 [(.call 19 [(.call 9 [(.nm 4)]), (.call 5 [(.nm 2), (.nm 1)])]), (.nm 1)])]⟩
def unI : List S := [.set 8 (.bin .mul (.call 26 [(.nm 5), (.nm 7)]) (.bin .sub (.cst (.int 1)) (.bin .mul (.cst (.int 2)) (.bin .mod (.bin .sub (.bor 5) (.bor 7)) (.cst (.int 2)))))), .set 6 (.call 4 [(.nm 6), (.call 6 [(.call 27 [(.nm 8)]), (.ix (.bor 0) (.bor 7))])])]
def unO : List S := [.set 6 (.call 27 [(.cst (.int 0))]), .for (.one 7) (.rng1 (.bin .add (.bor 5) (.cst (.int 1)))) unI, .app 4 (.call 6 [(.call 27 [(.call 26 [(.nm 3), (.nm 5)])]), (.nm 6)])]
theorem sgn : ∀ d : Nat, ((1 - 2 * (d : Int).fmod 2 : Int) : Rat) = (-1) ^ d
  | 0 => by rw [Rat.pow_zero]; rfl
  | 1 => by rw [Rat.pow_succ, Rat.pow_zero]; show ((-1 : Int) : Rat) = _; grind
  | d + 2 => by
    have h : ((d + 2 : Nat) : Int).fmod 2 = (d : Int).fmod 2 := by
      rw [Int.fmod_eq_emod_of_nonneg _ (by decide), Int.fmod_eq_emod_of_nonneg _ (by decide)]; omega
    rw [h, sgn d, Rat.pow_succ, Rat.pow_succ]; grind
/-- the sum so far -/
def unS (b : Nat → Rat) (j i : Nat) : Rat := sm (fun i => ((ch j i : Rat) * (-1) ^ (j - i)) * b i) i
theorem unS_succ {b : Nat → Rat} {j i : Nat} : unS b j (i + 1) = unS b j i + ((ch j i : Rat) * (-1) ^ (j - i)) * b i := rfl
theorem unS_df {b : Nat → Rat} {j : Nat} : unS b j (j + 1) = df j b := df_sum.symm
theorem bd_int {z : Int} {m : Nat} (h : z.natAbs < 2 ^ m) (hm : 1 ≤ m) : Bd m (z : Rat) := ⟨by rw [Rat.num_intCast]; exact h, by rw [Rat.den_intCast]; exact Nat.one_lt_two_pow (by omega)⟩
theorem Bd.unS {B j : Nat} {b : Nat → Rat} (hj : j ≤ 12) (bb : ∀ k, Bd (B + 1) (b k)) : ∀ i, Bd (1 + i * (B + 16)) (unS b j i)
  | 0 => by rw [Nat.zero_mul]; exact (⟨by decide, by decide⟩ : Bd (1 + 0) (0 : Rat))
  | i + 1 => by
    rw [unS_succ, Nat.succ_mul]
    have h1 : Bd 13 ((ch j i : Rat) * (-1) ^ (j - i)) := by
      rw [← sgn, ← Rat.intCast_natCast, ← Rat.intCast_mul]
      have := ch_bd (n := j) (k := i) hj
      have h2 := fmod_bd ((j - i : Nat) : Int) (b := 2) (by decide)
      refine bd_int ?_ (by decide)
      rcases (show (1 - 2 * ((j - i : Nat) : Int).fmod 2 = 1) ∨ (1 - 2 * ((j - i : Nat) : Int).fmod 2 = -1) by omega) with e | e <;> rw [e] <;> omega
    exact ((Bd.unS hj bb i).add (h1.mul (bb i))).mono (by omega)
theorem Bd.pw {B n j : Nat} {b : Nat → Rat} (hn : n ≤ 12) (hj : j ≤ n) (bb : ∀ k, Bd (B + 1) (b k)) : Bd (13 * (B + 16) + 14) (pw n b j) := by
  unfold G.pw
  have h := Bd.unS (j := j) (b := b) (by omega) bb (j + 1)
  rw [unS_df] at h
  have h2 := (bd_nat (ch_bd (n := n) (k := j) hn) (by decide)).mul h
  refine h2.mono ?_
  have := Nat.mul_le_mul_right (B + 16) (show j + 1 ≤ 13 by omega)
  omega
section
variable {FT : Nat → Option FD}
variable (h0 : FT 0 = some fd_divisor_of) (h1 : FT 1 = some fd_number) (h4 : FT 4 = some fd_plus) (h5 : FT 5 = some fd_minus) (h6 : FT 6 = some fd_times) (h26 : FT 26 = some fd_choose) (h27 : FT 27 = some fd_of_whole)
include h0 h1 h4 h6 h26 h27
theorem un_in {N n j B : Nat} {l : List Rat} {x1 x2 x3 x4 : Option (Val × Bool)} (hl : l.length = n + 1) (hn : n ≤ 12) (hj : j ≤ n) (bl : BL (B + 1) l) (hB : B ≤ 1000000) : ∀ (d i : Nat) (z7 z8 : Option (Val × Bool)), i + d ≤ j + 1 →
    ∃ y7 y8, forL (.one 7) (fun env' => evSs (callF FT (N + 3)) unI env') (rngV i d) [some (lv l, false), x1, x2, x3, x4, some (.int j, false), some (nv (unS (co l) j i), false), z7, z8] = .nx [some (lv l, false), x1, x2, x3, x4, some (.int j, false), some (nv (unS (co l) j (i + d)), false), y7, y8]
  | 0, i, z7, z8, _ => ⟨_, _, rfl⟩
  | d + 1, i, z7, z8, h => by
    have c1 := callF_choose h26 (n := N + 2) (N := j) (k := i) (by omega) (by omega)
    have hf := fmod_bd ((j : Int) - i) (b := 2) (by decide)
    have m1 : mulOk 2 (((j : Int) - i).fmod 2) = true := mul_small (m := 2) (n := 2) (by decide) (natAbs_lt_pow (by omega) (by omega)) (by decide)
    have m2 : mulOk (ch j i) (1 - 2 * ((j : Int) - i).fmod 2) = true := mul_small (m := 13) (n := 2) (by rw [Int.natAbs_natCast]; exact ch_bd (by omega)) (natAbs_lt_pow (by omega) (by omega)) (by decide)
    have c2 : callF FT (N + 3) 27 [.int ((ch j i : Int) * (1 - 2 * ((j : Int) - i).fmod 2))] = _ := callF_of_whole h0 h1 h27 (n := N) (z := (ch j i : Int) * (1 - 2 * ((j : Int) - i).fmod 2))
    have hs : ((j : Int) - i) = ((j - i : Nat) : Int) := by omega
    have ez : (((ch j i : Int) * (1 - 2 * ((j : Int) - i).fmod 2) : Int) : Rat) = (ch j i : Rat) * (-1) ^ (j - i) := by
      rw [Rat.intCast_mul, hs, sgn, Rat.intCast_natCast]
    have bz : Bd 14 ((ch j i : Rat) * (-1) ^ (j - i)) := by
      rw [← ez]
      refine bd_int ?_ (by decide)
      have := ch_bd (n := j) (k := i) (by omega)
      rcases (show (1 - 2 * ((j : Int) - i).fmod 2 = 1) ∨ (1 - 2 * ((j : Int) - i).fmod 2 = -1) by omega) with e | e <;> rw [e] <;> omega
    rw [ez] at c2
    have c3 := callF_times h0 h1 h6 (n := N) bz (bl.co i) (by omega)
    have bS := Bd.unS (j := j) (b := co l) (by omega) (fun k => bl.co k) i
    have hi := Nat.mul_le_mul_right (B + 16) (show i ≤ 13 by omega)
    have c4 := callF_plus h0 h1 h4 (n := N) bS (bz.mul (bl.co i)) (by omega)
    rw [← unS_succ] at c4
    have ix := ix_lvc (l := l) (k := i) (by omega)
    obtain ⟨y7, y8, e⟩ := un_in (N := N) (x1 := x1) (x2 := x2) (x3 := x3) (x4 := x4) hl hn hj bl hB d (i + 1) (some (.int i, false)) (some (.int ((ch j i : Int) * (1 - 2 * ((j : Int) - i).fmod 2)), false)) (by omega)
    rw [show i + 1 + d = i + (d + 1) by omega] at e
    refine ⟨y7, y8, ?_⟩
    rw [rngV_succ, show (i : Int) + 1 = ((i + 1 : Nat) : Int) by omega, ← e]
    refine forL_cons (env1 := [some (lv l, false), x1, x2, x3, x4, some (.int j, false), some (nv (unS (co l) j i), false), some (.int i, false), z8]) rfl ?_
    unfold unI
    clear e bS bz bl hs ez hi hf hl hn hj hB
    walk_at "evh"
theorem un_out {N n B : Nat} {l : List Rat} {x1 x2 : Option (Val × Bool)} (hl : l.length = n + 1) (hn : n ≤ 12) (bl : BL (B + 1) l) (hB : B ≤ 1000000) : ∀ (d k : Nat) (z5 z6 z7 z8 : Option (Val × Bool)), k + d ≤ n + 1 →
    ∃ y5 y6 y7 y8, forL (.one 5) (fun env' => evSs (callF FT (N + 3)) unO env') (rngV k d) [some (lv l, false), x1, x2, some (.int n, false), some (lv (seg (pw n (co l)) 0 k), true), z5, z6, z7, z8] = .nx [some (lv l, false), x1, x2, some (.int n, false), some (lv (seg (pw n (co l)) 0 (k + d)), true), y5, y6, y7, y8]
  | 0, k, z5, z6, z7, z8, _ => ⟨_, _, _, _, rfl⟩
  | d + 1, k, z5, z6, z7, z8, h => by
    have w0 : callF FT (N + 3) 27 [.int 0] = .ok (nv 0, false) := callF_of_whole h0 h1 h27 (n := N) (z := 0)
    obtain ⟨y7, y8, g1⟩ := un_in h0 h1 h4 h6 h26 h27 (N := N) (x1 := x1) (x2 := x2) (x3 := some (.int n, false)) (x4 := some (lv (seg (pw n (co l)) 0 k), true)) hl hn (show k ≤ n by omega) bl hB (k + 1) 0 z7 z8 (by omega)
    rw [Nat.zero_add, unS_df] at g1
    have g1 : forL (.one 7) (fun env' => evSs (callF FT (N + 3)) unI env') (rngV 0 (k + 1)) [some (lv l, false), x1, x2, some (.int n, false), some (lv (seg (pw n (co l)) 0 k), true), some (.int k, false), some (nv 0, false), z7, z8] = _ := g1
    have c1 := callF_choose h26 (n := N + 2) (N := n) (k := k) (by omega) (by omega)
    have c2 : callF FT (N + 3) 27 [.int (ch n k : Int)] = _ := callF_of_whole h0 h1 h27 (n := N) (z := (ch n k : Int))
    rw [Rat.intCast_natCast] at c2
    have bd := Bd.unS (j := k) (b := co l) (by omega) (fun k => bl.co k) (k + 1)
    rw [unS_df] at bd
    have hi := Nat.mul_le_mul_right (B + 16) (show k + 1 ≤ 13 by omega)
    have c3 := callF_times h0 h1 h6 (n := N) (bd_nat (ch_bd (n := n) (k := k) hn) (by decide)) bd (by omega)
    have ep : (ch n k : Rat) * df k (co l) = pw n (co l) k := rfl
    rw [ep] at c3
    have lo : lenOk ((seg (pw n (co l)) 0 k).length + 1) = true := lenOk_lit (by rw [seg_len]; omega)
    have ea : (seg (pw n (co l)) 0 k).map nv ++ [nv (pw n (co l) k)] = (seg (pw n (co l)) 0 (k + 1)).map nv := by rw [seg_more, Nat.zero_add]; simp
    have r : rngOk ((k : Int) + 1) = true := rng_ok (by omega)
    have et : ((k : Int) + 1).toNat = k + 1 := by omega
    obtain ⟨y5, y6, y7', y8', e⟩ := un_out (N := N) (x1 := x1) (x2 := x2) hl hn bl hB d (k + 1) (some (.int k, false)) (some (nv (df k (co l)), false)) y7 y8 (by omega)
    rw [show k + 1 + d = k + (d + 1) by omega] at e
    refine ⟨y5, y6, y7', y8', ?_⟩
    rw [rngV_succ, show (k : Int) + 1 = ((k + 1 : Nat) : Int) by omega, ← e]
    refine forL_cons (env1 := [some (lv l, false), x1, x2, some (.int n, false), some (lv (seg (pw n (co l)) 0 k), true), some (.int k, false), z6, z7, z8]) rfl ?_
    generalize seg (pw n (co l)) 0 (k + 1) = S1 at *
    generalize seg (pw n (co l)) 0 k = S0 at *
    generalize k + 1 = k1 at g1 et
    unfold unO
    clear e bd bl hi ep hl hn hB
    walk_at "evh"
/-- the curve that unmixed tells -/
def unP (l : List Rat) (a b : Rat) (n : Nat) : List Rat := movP a (strG (b - a) 1 (trim (seg (pw n (co l)) 0 (n + 1))))
include h5
theorem callF_unmixed (h2 : FT 2 = some fd_less) (h7 : FT 7 = some fd_over) (h8 : FT 8 = some fd_without_noughts) (h9 : FT 9 = some fd_curve_of) (h11 : FT 11 = some fd_at_power) (h13 : FT 13 = some fd_added) (h15 : FT 15 = some fd_product) (h18 : FT 18 = some fd_moved) (h19 : FT 19 = some fd_stretched) (h25 : FT 25 = some fd_ask_stretch) (h30 : FT 30 = some fd_unmixed) {N n s B K : Nat} {l : List Rat} {a b : Rat} (hab : a < b) (hl : l.length = n + 1) (hn : n ≤ 12) (bl : BL (B + 1) l) (hB : B ≤ 1000000) (bP : BL K (trim (seg (pw n (co l)) 0 (n + 1)))) (hK : K ≤ 100000) (ba : Bd s a) (bb : Bd s b) (hs : s ≤ 1000) :
    callF FT (N + 6) 30 [lv l, nv a, nv b] = .ok (cv (unP l a b n), false) := by
  have hne : b - a ≠ 0 := fun z => by
    have : b = a := by grind
    rw [this] at hab; exact Rat.lt_irrefl hab
  obtain ⟨y5, y6, y7, y8, e⟩ := un_out h0 h1 h4 h6 h26 h27 (N := N + 2) (x1 := some (nv a, false)) (x2 := some (nv b, false)) hl hn bl hB (n + 1) 0 none none none none (by omega)
  rw [Nat.zero_add, seg_zero] at e
  have e : forL (.one 5) (fun env' => evSs (callF FT (N + 5)) unO env') (rngV 0 (n + 1)) [some (lv l, false), some (nv a, false), some (nv b, false), some (.int n, false), some (lv [], true), none, none, none, none] = _ := e
  have a1 := callF_ask h0 h1 h2 h25 (n := N + 3) ba bb (by omega) hab
  have lP : (trim (seg (pw n (co l)) 0 (n + 1))).length ≤ 13 := by have := trim_len (seg (pw n (co l)) 0 (n + 1)); rw [seg_len] at this; omega
  have c1 : callF FT (N + 5) 9 [lv (seg (pw n (co l)) 0 (n + 1))] = _ := callF_curve_of h8 h9 (n := N + 3) (L := lv (seg (pw n (co l)) 0 (n + 1))) (.inr rfl) lP
  have c2 : callF FT (N + 5) 5 [nv b, nv a] = _ := callF_minus h0 h1 h5 (n := N + 2) bb ba (by omega)
  have hl1 := Nat.mul_le_mul_right (s + s + 1) lP
  obtain ⟨c3, b3⟩ := callF_stretched h0 h1 h6 h7 h19 (n := N + 1) hne (bb.sub ba) bP (by omega) (by omega)
  have ls := str_len (k := b - a) (trim (seg (pw n (co l)) 0 (n + 1))) 1
  have b3 := b3.mono (show K + 1 + (trim (seg (pw n (co l)) 0 (n + 1))).length * (s + s + 1) ≤ K + 1 + 13 * (s + s + 1) by omega)
  have lS : (strG (b - a) 1 (trim (seg (pw n (co l)) 0 (n + 1)))).length ≤ 13 := by omega
  have hl2 := Nat.mul_le_mul_right (K + 1 + 13 * (s + s + 1)) lS
  have hl3 := Nat.mul_le_mul_right (2 * s + 2) lS
  have c4 := (callF_moved h0 h1 h4 h6 h8 h11 h13 h15 h18 (n := N) ba b3 (by omega) (by omega)).1
  have c3 : callF FT (N + 5) 19 [cv (trim (seg (pw n (co l)) 0 (n + 1))), nv (b - a)] = _ := c3
  have eu : movP a (strG (b - a) 1 (trim (seg (pw n (co l)) 0 (n + 1)))) = unP l a b n := rfl
  rw [eu] at c4
  rw [callF_s h30 rfl]
  have el : (l.length : Int) - 1 = n := by omega
  have r : rngOk ((n : Int) + 1) = true := rng_ok (by omega)
  have et : ((n : Int) + 1).toNat = n + 1 := by omega
  have en : Val.lst [] = lv [] := rfl
  have eb : fd_unmixed.body = [.exp (.call 25 [(.nm 1), (.nm 2)]), .set 3 (.bin .sub (.blt .len [(.bor 0)]) (.cst (.int 1))), .set 4 (.lst []), .for (.one 5) (.rng1 (.bin .add (.bor 3) (.cst (.int 1)))) unO, .ret (.call 18 [(.call 19 [(.call 9 [(.nm 4)]), (.call 5 [(.nm 2), (.nm 1)])]), (.nm 1)])] := rfl
  rw [eb, show fd_unmixed.nl = 9 from rfl]
  clear eb eu hl3 hl2 lS b3 ls hl1 lP ba bb bP bl hne hab hl hs hK hB hn
  generalize strG (b - a) 1 (trim (seg (pw n (co l)) 0 (n + 1))) = Q2 at *
  generalize trim (seg (pw n (co l)) 0 (n + 1)) = Q1 at *
  generalize seg (pw n (co l)) 0 (n + 1) = Q0 at *
  generalize n + 1 = M at e et
  walk_at "evh"
end
/-! ### what it is -/
theorem ev_unP {l : List Rat} {a b x : Rat} {n : Nat} (hab : a < b) : ev (unP l a b n) x = bn ((x - a) / (b - a)) n (co l) := by
  have hne : b - a ≠ 0 := fun z => by
    have : b = a := by grind
    rw [this] at hab; exact Rat.lt_irrefl hab
  unfold unP
  rw [ev_mov, ev_str hne _ _ (by decide), ev_trim, ev_pw]
  grind
theorem unP_trim {l : List Rat} {a b : Rat} {n : Nat} : Trim (unP l a b n) := .mov
theorem unP_len {l : List Rat} {a b : Rat} {n : Nat} : (unP l a b n).length ≤ n + 1 := by
  unfold unP
  refine Nat.le_trans (mov_len _) ?_
  rw [str_len]
  have := trim_len (seg (pw n (co l)) 0 (n + 1))
  rw [seg_len] at this
  exact this
theorem list_ext_co {l m : List Rat} (hl : l.length = m.length) (h : ∀ k < l.length, co l k = co m k) : l = m := by
  rw [list_co (l := l), list_co (l := m), hl]
  exact List.map_congr_left fun k hk => h k (by rw [hl]; exact List.mem_range.mp hk)
/-- the mixing numbers of the curve told back are these -/
theorem mixP_unP {l : List Rat} {a b : Rat} {n : Nat} (hab : a < b) (hl : l.length = n + 1) : mixP (unP l a b n) a b n = l := by
  have hne : b - a ≠ 0 := fun z => by
    have : b = a := by grind
    rw [this] at hab; exact Rat.lt_irrefl hab
  refine list_ext_co (by rw [mixP_len, hl]) fun k hk => ?_
  rw [mixP_len] at hk
  refine bn_inj (n := n) (fun t => ?_) k (by omega)
  rw [bn_mixP unP_trim hab unP_len, ev_unP hab]
  congr 1; grind
/-- and the curve told back from a curve's mixing numbers is this curve -/
theorem unP_mixP {l : List Rat} {a b : Rat} {n : Nat} (tl : Trim l) (hab : a < b) (hl : l.length ≤ n + 1) : unP (mixP l a b n) a b n = l := by
  have hne : b - a ≠ 0 := fun z => by
    have : b = a := by grind
    rw [this] at hab; exact Rat.lt_irrefl hab
  refine ev_inj unP_trim tl fun x => ?_
  rw [ev_unP hab, bn_mixP tl hab hl]
  congr 1; grind
theorem pw_mixP {l : List Rat} {a b : Rat} {n : Nat} (tl : Trim l) (hab : a < b) (hl : l.length ≤ n + 1) : trim (seg (pw n (co (mixP l a b n))) 0 (n + 1)) = onP l a b := by
  refine ev_inj (trim_trim _) (on_trim hab) fun x => ?_
  rw [ev_trim, ev_pw, bn_mixP tl hab hl, ev_on hab]
end G

set_option linter.all false
set_option maxHeartbeats 1000000
set_option maxRecDepth 10000
/-! F16: comprehensions that leave out; less, in the laws' words. -/
namespace G
open PySem
local macro_rules | `(tactic| walk_at "ev") => `(tactic| simp only [vl_nm, vl_bor, vl_cst, vl_bin, vl_neg, vl_cmp, vl_isn, vl_chn, vl_inn, vl_and, vl_or, vl_not, vl_ifx, vl_ix, vl_slc, vl_rev, vl_tup, vl_lst, vl_call, vl_blt, vl_isi, vl_lc, ev_nm, ev_cst, ev_bin, ev_neg, ev_cmp, ev_isn, ev_chn, ev_inn, ev_and, ev_or, ev_not, ev_ifx, ev_ix, ev_slc, ev_rev, ev_tup, ev_lst, ev_call, ev_blt, ev_isi, ev_lc, evEs_nil, evEs_cons, evAs_nil, evAs_cons, evO_none, evO_some, evC_none, evC_some, evIt_val, evIt_rng1, evIt_rng2, evIt_rvd, evT_vl, andR_t, andR_f, orR_f, orR_t, ifxR_t, ifxR_f, chnR_t, chnR_f, ss_nil', ss_cons', thn_nx, thn_ret, thn_exc, thn_bad, s_set', set_ok, set_exc, s_unp', unp_ok, s_ifs', if_t, if_f, s_for', for_ok, s_whl', s_ret', s_retn', s_pass', s_rse', s_exp', s_try', try_nx, try_ret, try_exc, s_par', s_par3', s_six', s_app', s_pop', s_popu', s_rev', rO_ok, rO_exc, ret_nm, ret_bor, ret_cst, ret_bin, ret_neg, ret_cmp, ret_isn, ret_chn, ret_inn, ret_and, ret_or, ret_not, ret_ifx, ret_ix, ret_slc, ret_rev, ret_tup, ret_lst, ret_call, ret_blt, ret_isi, ret_lc, fin_nx, fin_ret, fin_exc, b_add, b_sub, b_mul, b_fdiv, b_mod, p11, p12, p30, p42, p57, p59, b_addL, b_addT, b_mulL, c_lt, c_le, c_gt, c_ge, truth_bl, toI_int, toB_bl, items_lst, items_tup, len_lst, len_tup, len_scr, abs_int, int_int, int_bl, list_lst, list_tup, list_scr, tuple_lst, tuple_tup, max_int, min_int, ix_p0, ix_p1, c_eqI, c_neI, startE, frzE, frzI, frzAll, frz, kept, keptL, keptO, keptI, put, look, lookF, ownL_s, ownS_lst, evCall, lent, borI, bind_one, bind_tup, putAll, isLst_int, isLst_bl, isLst_str, isLst_tup, isLst_non, isLst_scr, isLst_exc, isLst_lst, isNon_int, isNon_bl, isNon_str, isNon_tup, isNon_non, isNon_scr, isNon_exc, isNon_lst, R.bind_ok, R.bind_exc, R.map_ok, R.map_exc, List.map_cons, List.map_nil, List.length_cons, List.length_nil, List.replicate, List.cons_append, List.nil_append, List.append_nil, List.getElem?_cons_zero, List.getElem?_cons_succ, List.set_cons_zero, List.set_cons_succ, Bool.false_and, Bool.true_and, Bool.and_true, Bool.and_false, Bool.or_false, Bool.false_or, Bool.or_true, Bool.true_or, Bool.not_true, Bool.not_false, decide_true, decide_false, if_true, if_false, ite_true, ite_false, reduceCtorEq, reduceIte, Nat.reduceAdd, Nat.reduceSub, Nat.reduceMul, Nat.reduceEqDiff, Int.reduceEq, Int.reduceLT, Int.reduceLE, Int.reduceNe, Int.reduceNeg, Int.reduceAdd, Int.reduceMul, Int.reduceSub, Nat.reduceLT, Nat.reduceLeDiff, Int.reduceGT, Int.reduceGE, is_tup_tuple, is_tup_list, is_tup_int, is_tup_bool, is_tup_str, is_lst_tuple, is_lst_list, is_lst_int, is_lst_bool, is_lst_str, is_int_tuple, is_int_list, is_int_int, is_int_bool, is_int_str, is_bl_tuple, is_bl_list, is_bl_int, is_bl_bool, is_bl_str, is_str_tuple, is_str_list, is_str_int, is_str_bool, is_str_str, is_non_tuple, is_non_list, is_non_int, is_non_bool, is_non_str, forS_ok, forB_nx, forB_ret, forL_nil, lc_nil, Int.cast_ofNat_Int, lc_cons, vlE_d, lenOk0, lenOk1, lenOk2, lenOk3, wipe1, wipe2, R.noexc_ok, decide_eq_true_eq, eq_self, ix_nv0, ix_nv1, is_nv_tuple, is_cv_tuple, is_lv_list, is_lv_tuple, is_cv_list, isLst_nv, isLst_cv, isLst_lv, isNon_nv, isNon_cv, isNon_lv, bind_nv, items_cv, items_lv, len_cv, len_lv, list_cv, list_lv, tuple_cv, tuple_lv, c_eqN, c_neN, c_eqC, c_neC, c_eqL, c_neL, nv01, nv11, cv_nil, cv_one, rev_lv, rev_cv, lv_one, lv_map, cv_map, lenOk_map, List.length_map, ownS_lv, back_bl, back_int, back_nv, back_cv, back_lv, c_eqB, c_neB])
local macro_rules | `(tactic| walk_at "evh") => `(tactic| simp only [vl_nm, vl_bor, vl_cst, vl_bin, vl_neg, vl_cmp, vl_isn, vl_chn, vl_inn, vl_and, vl_or, vl_not, vl_ifx, vl_ix, vl_slc, vl_rev, vl_tup, vl_lst, vl_call, vl_blt, vl_isi, vl_lc, ev_nm, ev_cst, ev_bin, ev_neg, ev_cmp, ev_isn, ev_chn, ev_inn, ev_and, ev_or, ev_not, ev_ifx, ev_ix, ev_slc, ev_rev, ev_tup, ev_lst, ev_call, ev_blt, ev_isi, ev_lc, evEs_nil, evEs_cons, evAs_nil, evAs_cons, evO_none, evO_some, evC_none, evC_some, evIt_val, evIt_rng1, evIt_rng2, evIt_rvd, evT_vl, andR_t, andR_f, orR_f, orR_t, ifxR_t, ifxR_f, chnR_t, chnR_f, ss_nil', ss_cons', thn_nx, thn_ret, thn_exc, thn_bad, s_set', set_ok, set_exc, s_unp', unp_ok, s_ifs', if_t, if_f, s_for', for_ok, s_whl', s_ret', s_retn', s_pass', s_rse', s_exp', s_try', try_nx, try_ret, try_exc, s_par', s_par3', s_six', s_app', s_pop', s_popu', s_rev', rO_ok, rO_exc, ret_nm, ret_bor, ret_cst, ret_bin, ret_neg, ret_cmp, ret_isn, ret_chn, ret_inn, ret_and, ret_or, ret_not, ret_ifx, ret_ix, ret_slc, ret_rev, ret_tup, ret_lst, ret_call, ret_blt, ret_isi, ret_lc, fin_nx, fin_ret, fin_exc, b_add, b_sub, b_mul, b_fdiv, b_mod, p11, p12, p30, p42, p57, p59, b_addL, b_addT, b_mulL, c_lt, c_le, c_gt, c_ge, truth_bl, toI_int, toB_bl, items_lst, items_tup, len_lst, len_tup, len_scr, abs_int, int_int, int_bl, list_lst, list_tup, list_scr, tuple_lst, tuple_tup, max_int, min_int, ix_p0, ix_p1, c_eqI, c_neI, startE, frzE, frzI, frzAll, frz, kept, keptL, keptO, keptI, put, look, lookF, ownL_s, ownS_lst, evCall, lent, borI, bind_one, bind_tup, putAll, isLst_int, isLst_bl, isLst_str, isLst_tup, isLst_non, isLst_scr, isLst_exc, isLst_lst, isNon_int, isNon_bl, isNon_str, isNon_tup, isNon_non, isNon_scr, isNon_exc, isNon_lst, R.bind_ok, R.bind_exc, R.map_ok, R.map_exc, List.map_cons, List.map_nil, List.length_cons, List.length_nil, List.replicate, List.cons_append, List.nil_append, List.append_nil, List.getElem?_cons_zero, List.getElem?_cons_succ, List.set_cons_zero, List.set_cons_succ, Bool.false_and, Bool.true_and, Bool.and_true, Bool.and_false, Bool.or_false, Bool.false_or, Bool.or_true, Bool.true_or, Bool.not_true, Bool.not_false, decide_true, decide_false, if_true, if_false, ite_true, ite_false, reduceCtorEq, reduceIte, Nat.reduceAdd, Nat.reduceSub, Nat.reduceMul, Nat.reduceEqDiff, Int.reduceEq, Int.reduceLT, Int.reduceLE, Int.reduceNe, Int.reduceNeg, Int.reduceAdd, Int.reduceMul, Int.reduceSub, Nat.reduceLT, Nat.reduceLeDiff, Int.reduceGT, Int.reduceGE, is_tup_tuple, is_tup_list, is_tup_int, is_tup_bool, is_tup_str, is_lst_tuple, is_lst_list, is_lst_int, is_lst_bool, is_lst_str, is_int_tuple, is_int_list, is_int_int, is_int_bool, is_int_str, is_bl_tuple, is_bl_list, is_bl_int, is_bl_bool, is_bl_str, is_str_tuple, is_str_list, is_str_int, is_str_bool, is_str_str, is_non_tuple, is_non_list, is_non_int, is_non_bool, is_non_str, forS_ok, forB_nx, forB_ret, forL_nil, lc_nil, Int.cast_ofNat_Int, lc_cons, vlE_d, lenOk0, lenOk1, lenOk2, lenOk3, wipe1, wipe2, R.noexc_ok, decide_eq_true_eq, eq_self, ix_nv0, ix_nv1, is_nv_tuple, is_cv_tuple, is_lv_list, is_lv_tuple, is_cv_list, isLst_nv, isLst_cv, isLst_lv, isNon_nv, isNon_cv, isNon_lv, bind_nv, items_cv, items_lv, len_cv, len_lv, list_cv, list_lv, tuple_cv, tuple_lv, c_eqN, c_neN, c_eqC, c_neC, c_eqL, c_neL, nv01, nv11, cv_nil, cv_one, rev_lv, rev_cv, lv_one, lv_map, cv_map, lenOk_map, List.length_map, ownS_lv, back_bl, back_int, back_nv, back_cv, back_lv, c_eqB, c_neB, *])
def fd_law_less3 : FD := ⟨2, 2, [.ret (.cmp .lt (.bin .mul (.ix (.bor 0) (.cst (.int 0))) (.ix (.bor 1) (.cst (.int 1)))) (.bin .mul (.ix (.bor 1) (.cst (.int 0))) (.ix (.bor 0) (.cst (.int 1)))))]⟩
theorem lcR_filter {cl : Nat → List Val → R (Val × Bool)} {i : Nat} {env : Env} {c : E} {p : Rat → Bool} {l : List Rat} (hm : l.length ≤ 1000000) (hi : i < env.length) (h : ∀ q ∈ l, evC cl (some c) ((env.set i none).set i (some (nv q, false))) = .ok (p q)) :
    lcR cl (.ok (l.map nv)) (.one i) (some c) (.nm i) env = .ok (lv (l.filter p)) := by
  rw [lcR_ok, List.length_map, if_pos (lenOk_lit hm)]
  have e : lcLoop (.one i) (wipeE env (tgs (.one i))) (fun env' => (evC cl (some c) env').noexc) (fun env' => (vlE cl (.nm i) env').noexc) (l.map nv) = .ok ((l.filter p).map nv) := by
    induction l with
    | nil => rfl
    | cons a l ih =>
      rw [List.map_cons, lc_cons, ih (by simp at hm; omega) fun q hq => h q (List.mem_cons_of_mem _ hq)]
      have h1 : evC cl (some c) (put (wipeE env (tgs (.one i))) i (nv a) false) = .ok (p a) := h a List.mem_cons_self
      have e1 : vlE cl (.nm i) (put (wipeE env (tgs (.one i))) i (nv a) false) = .ok (nv a) := by
        have hg : (put (wipeE env (tgs (.one i))) i (nv a) false)[i]? = some (some (nv a, false)) := by
          show ((env.set i none).set i (some (nv a, false)))[i]? = _
          rw [List.getElem?_set_self (by simpa using hi)]
        rw [vlE_d, ev_nm]
        unfold lookF
        rw [hg]
        rfl
      simp only [bind_one, R.bind_ok, h1, R.noexc_ok, e1, List.filter_cons]
      cases p a <;> rfl
  rw [e]; rfl
theorem callF_less3 {FT : Nat → Option FD} (h169 : FT 169 = some fd_law_less3) {n i j : Nat} {p q : Rat} (hp : Bd i p) (hq : Bd j q) (hl : i + j < 134000000) : callF FT (n + 1) 169 [nv p, nv q] = .ok (.bl (decide (p < q)), false) := by
  rw [callF_s h169 rfl]
  have m1 : mulOk p.num q.den = true := mul_ok hp.1 hq.2 hl
  have m2 : mulOk q.num p.den = true := mul_ok hq.1 hp.2 (by omega)
  unfold fd_law_less3
  unfold nv at *
  walk_at "evh"
  simp only [Rat.lt_iff]
theorem filter_ne {p : Rat → Bool} {l : List Rat} (h : ∃ q ∈ l, p q = true) : decide (l.filter p = []) = false := decide_eq_false fun z => by
  obtain ⟨q, hq, hp⟩ := h
  have : q ∈ l.filter p := List.mem_filter.mpr ⟨hq, hp⟩
  rw [z] at this
  cases this
end G

set_option linter.all false
set_option maxHeartbeats 1000000
set_option maxRecDepth 10000
/-! F17: bits drawn. -/
namespace G
open PySem
theorem b_shr {i j : Int} (h : 0 ≤ j) : evBin .shr (.int i) (.int j) = .ok (.int (i / 2 ^ j.toNat)) := if_pos h
theorem b_band {i j : Int} : evBin .band (.int i) (.int j) = .ok (.int (Builtin.bitAnd i j)) := rfl
theorem and1 (x : Int) : Builtin.bitAnd x 1 = 0 ∨ Builtin.bitAnd x 1 = 1 := by
  unfold Builtin.bitAnd
  by_cases h : 0 ≤ x
  · rw [decide_eq_true h, decide_eq_true (show (0 : Int) ≤ 1 by decide)]
    dsimp only
    rw [show (1 : Int).toNat = 1 from rfl, Nat.and_one_is_mod]
    omega
  · rw [decide_eq_false h, decide_eq_true (show (0 : Int) ≤ 1 by decide)]
    dsimp only
    rw [show (1 : Int).toNat = 1 from rfl, Nat.and_comm, Nat.and_one_is_mod]
    omega
theorem pick01 (x : Int) (q : Rat) : ∃ r : Rat, (r = 0 ∨ r = q) ∧ evIx (.lst [nv 0, nv q]) (.int (Builtin.bitAnd x 1)) = .ok (nv r) := by
  rcases and1 x with e | e
  · exact ⟨0, .inl rfl, by rw [e]; rfl⟩
  · exact ⟨q, .inr rfl, by rw [e]; rfl⟩
/-- a fraction between 0 and 1 -/
theorem frac01 {c b : Int} (hb : 0 < b) (h0 : 0 ≤ c) (h1 : c ≤ b) : 0 ≤ Rat.divInt c b ∧ Rat.divInt c b ≤ 1 := by
  have hp : (0 : Rat) < (b : Rat) := Rat.intCast_pos.mpr hb
  have hne : (b : Rat) ≠ 0 := fun z => by rw [z] at hp; exact Rat.lt_irrefl hp
  have e : Rat.divInt c b = (c : Rat) * ((b : Rat))⁻¹ := by rw [Rat.divInt_eq_div, Rat.div_def]
  have i0 := Rat.le_of_lt (Rat.inv_pos.mpr hp)
  have a := Rat.mul_nonneg (Rat.intCast_nonneg.mpr h0) i0
  have d := Rat.mul_nonneg (Rat.intCast_nonneg.mpr (show 0 ≤ b - c by omega)) i0
  rw [Rat.intCast_sub] at d
  rw [e]
  exact ⟨a, by grind⟩
theorem frac01' {c b : Int} (hb : 0 < b) (h0 : 0 < c) (h1 : c < b) : 0 < Rat.divInt c b ∧ Rat.divInt c b < 1 := by
  have hp : (0 : Rat) < (b : Rat) := Rat.intCast_pos.mpr hb
  have hne : (b : Rat) ≠ 0 := fun z => by rw [z] at hp; exact Rat.lt_irrefl hp
  have e : Rat.divInt c b = (c : Rat) * ((b : Rat))⁻¹ := by rw [Rat.divInt_eq_div, Rat.div_def]
  have i0 := Rat.inv_pos.mpr hp
  have a := Rat.mul_pos (Rat.intCast_pos.mpr h0) i0
  have d := Rat.mul_pos (Rat.intCast_pos.mpr (show 0 < b - c by omega)) i0
  rw [Rat.intCast_sub] at d
  rw [e]
  exact ⟨a, by grind⟩
/-! ### signs -/
/-- a number's sign, as sign tells it -/
def sgI (q : Rat) : Int := (if 0 < q.num then 1 else 0) - (if q.num < 0 then 1 else 0)
theorem num_pos {q : Rat} : 0 < q.num ↔ 0 < q := by
  rw [Rat.lt_iff, show (0 : Rat).num = 0 from rfl, show (0 : Rat).den = 1 from rfl]; omega
theorem num_neg' {q : Rat} : q.num < 0 ↔ q < 0 := by
  rw [Rat.lt_iff, show (0 : Rat).num = 0 from rfl, show (0 : Rat).den = 1 from rfl]; omega
theorem sgI_pos {q : Rat} (h : 0 < q) : sgI q = 1 := by
  have h1 := num_pos.mpr h
  unfold sgI; rw [if_pos h1, if_neg (by omega)]; rfl
theorem sgI_neg {q : Rat} (h : q < 0) : sgI q = -1 := by
  have h1 := num_neg'.mpr h
  unfold sgI; rw [if_pos h1, if_neg (by omega)]; rfl
theorem sgI_zero : sgI 0 = 0 := rfl
theorem sgI_cases (q : Rat) : (0 < q ∧ sgI q = 1) ∨ (q < 0 ∧ sgI q = -1) ∨ (q = 0 ∧ sgI q = 0) := by
  rcases Int.lt_trichotomy q.num 0 with h | h | h
  · exact .inr (.inl ⟨num_neg'.mp h, sgI_neg (num_neg'.mp h)⟩)
  · have := num_zero.mp h; subst this; exact .inr (.inr ⟨rfl, rfl⟩)
  · exact .inl ⟨num_pos.mp h, sgI_pos (num_pos.mp h)⟩
theorem sgI_negate (q : Rat) : sgI (-q) = 0 - sgI q := by
  unfold sgI
  rw [Rat.neg_num]
  split <;> split <;> split <;> split <;> omega
/-- the sign of numbers mixed -/
def sgs (l : List Rat) : Int := if (∀ q ∈ l, 0 ≤ q) ∧ (∃ q ∈ l, 0 < q) then 1 else if (∀ q ∈ l, q ≤ 0) ∧ (∃ q ∈ l, q < 0) then -1 else 0
theorem sgs_negate (l : List Rat) : sgs (l.map fun q => -q) = 0 - sgs l := by
  have e1 : (∀ q ∈ l.map (fun q => -q), (0 : Rat) ≤ q) ↔ ∀ q ∈ l, q ≤ 0 := by
    simp only [List.mem_map, forall_exists_index, and_imp, forall_apply_eq_imp_iff₂]
    exact ⟨fun h q hq => by have := h q hq; grind, fun h q hq => by have := h q hq; grind⟩
  have e2 : (∃ q ∈ l.map (fun q => -q), (0 : Rat) < q) ↔ ∃ q ∈ l, q < 0 := by
    simp only [List.mem_map]
    exact ⟨fun ⟨q, ⟨a, ha, e⟩, h⟩ => ⟨a, ha, by grind⟩, fun ⟨a, ha, h⟩ => ⟨-a, ⟨a, ha, rfl⟩, by grind⟩⟩
  have e3 : (∀ q ∈ l.map (fun q => -q), q ≤ (0 : Rat)) ↔ ∀ q ∈ l, 0 ≤ q := by
    simp only [List.mem_map, forall_exists_index, and_imp, forall_apply_eq_imp_iff₂]
    exact ⟨fun h q hq => by have := h q hq; grind, fun h q hq => by have := h q hq; grind⟩
  have e4 : (∃ q ∈ l.map (fun q => -q), q < (0 : Rat)) ↔ ∃ q ∈ l, 0 < q := by
    simp only [List.mem_map]
    exact ⟨fun ⟨q, ⟨a, ha, e⟩, h⟩ => ⟨a, ha, by grind⟩, fun ⟨a, ha, h⟩ => ⟨-a, ⟨a, ha, rfl⟩, by grind⟩⟩
  unfold sgs
  simp only [e1, e2, e3, e4]
  by_cases h1 : (∀ q ∈ l, (0 : Rat) ≤ q) ∧ ∃ q ∈ l, (0 : Rat) < q
  · have h2 : ¬ ((∀ q ∈ l, q ≤ (0 : Rat)) ∧ ∃ q ∈ l, q < (0 : Rat)) := fun ⟨_, q, hq, hl⟩ => by have := h1.1 q hq; exact Rat.not_lt.mpr this hl
    rw [if_neg h2, if_pos h1, if_pos h1]; rfl
  · rw [if_neg h1, if_neg h1]
    by_cases h2 : (∀ q ∈ l, q ≤ (0 : Rat)) ∧ ∃ q ∈ l, q < (0 : Rat)
    · rw [if_pos h2, if_pos h2]; rfl
    · rw [if_neg h2, if_neg h2]; rfl
theorem sgs_rev (l : List Rat) : sgs l.reverse = sgs l := by
  unfold sgs
  simp only [List.mem_reverse]
/-- numbers of one sign mix to it -/
theorem bn_nonneg {t : Rat} (t0 : 0 ≤ t) (t1 : t ≤ 1) : ∀ (n : Nat) (b : Nat → Rat), (∀ k ≤ n, 0 ≤ b k) → 0 ≤ bn t n b := fun n b h => by
  obtain ⟨k, hk, h1⟩ := bn_low t0 t1 n b
  exact Rat.le_trans (h k hk) h1
theorem bn_pos {t : Rat} (t0 : 0 < t) (t1 : t < 1) : ∀ (n : Nat) (b : Nat → Rat), (∀ k ≤ n, 0 ≤ b k) → (∃ k ≤ n, 0 < b k) → 0 < bn t n b
  | 0, b, _, ⟨k, hk, h⟩ => by
    have : k = 0 := by omega
    subst this; exact h
  | n + 1, b, h0, ⟨k, hk, h⟩ => by
    show 0 < (1 - t) * bn t n b + t * bn t n (fun k => b (k + 1))
    have a := bn_nonneg (Rat.le_of_lt t0) (Rat.le_of_lt t1) n b (fun k hk => h0 k (by omega))
    have c := bn_nonneg (Rat.le_of_lt t0) (Rat.le_of_lt t1) n (fun k => b (k + 1)) (fun k hk => h0 (k + 1) (by omega))
    have t2 : 0 < 1 - t := by grind
    by_cases hn : k ≤ n
    · have p := Rat.mul_pos t2 (bn_pos t0 t1 n b (fun k hk => h0 k (by omega)) ⟨k, hn, h⟩)
      have q := Rat.mul_nonneg (Rat.le_of_lt t0) c
      grind
    · have hk1 : k = n + 1 := by omega
      subst hk1
      have p := Rat.mul_pos t0 (bn_pos t0 t1 n (fun k => b (k + 1)) (fun k hk => h0 (k + 1) (by omega)) ⟨n, Nat.le_refl _, h⟩)
      have q := Rat.mul_nonneg (Rat.le_of_lt t2) a
      grind
theorem sgs_bn {l : List Rat} {n : Nat} {t : Rat} (hl : l.length = n + 1) (t0 : 0 < t) (t1 : t < 1) (h : sgs l ≠ 0) : sgI (bn t n (co l)) = sgs l := by
  have hm : ∀ k ≤ n, co l k ∈ l := fun k hk => List.mem_iff_getElem?.mpr ⟨k, co_get (by omega)⟩
  have hx : ∀ q ∈ l, ∃ k ≤ n, q = co l k := fun q hq => by
    obtain ⟨k, hk⟩ := List.mem_iff_getElem?.mp hq
    have hlt : k < l.length := (List.getElem?_eq_some_iff.mp hk).1
    rw [co_get hlt] at hk
    exact ⟨k, by omega, (Option.some.inj hk).symm⟩
  unfold sgs at h ⊢
  by_cases h1 : (∀ q ∈ l, (0 : Rat) ≤ q) ∧ ∃ q ∈ l, (0 : Rat) < q
  · rw [if_pos h1]
    obtain ⟨h2, q, hq, h3⟩ := h1
    obtain ⟨k, hk, rfl⟩ := hx q hq
    exact sgI_pos (bn_pos t0 t1 n (co l) (fun k hk => h2 _ (hm k hk)) ⟨k, hk, h3⟩)
  · rw [if_neg h1] at h ⊢
    by_cases h2 : (∀ q ∈ l, q ≤ (0 : Rat)) ∧ ∃ q ∈ l, q < (0 : Rat)
    · rw [if_pos h2]
      obtain ⟨h3, q, hq, h4⟩ := h2
      obtain ⟨k, hk, rfl⟩ := hx q hq
      have := bn_pos t0 t1 n (fun k => - co l k) (fun k hk => by have := h3 _ (hm k hk); grind) ⟨k, hk, by grind⟩
      rw [bn_neg] at this
      exact sgI_neg (by grind)
    · rw [if_neg h2] at h; exact absurd rfl h
/-! ### least and greatest -/
theorem minI_le : ∀ {xs : List Int} {x : Int}, x ∈ xs → minI xs ≤ x
  | [], _, h => by cases h
  | [a], x, h => by
    have : x = a := by simpa using h
    subst this; exact Int.le_refl _
  | a :: b :: r, x, h => by
    have e : minI (a :: b :: r) = if minI (b :: r) < a then minI (b :: r) else a := rfl
    rw [e]
    rcases List.mem_cons.mp h with rfl | h
    · split <;> omega
    · have := minI_le h
      split <;> omega
theorem minI_mem : ∀ {xs : List Int}, xs ≠ [] → minI xs ∈ xs
  | [], h => absurd rfl h
  | [a], _ => List.mem_singleton.mpr rfl
  | a :: b :: r, _ => by
    have e : minI (a :: b :: r) = if minI (b :: r) < a then minI (b :: r) else a := rfl
    rw [e]
    split
    · exact List.mem_cons_of_mem _ (minI_mem (by simp))
    · exact List.mem_cons_self
theorem maxI_ge : ∀ {xs : List Int} {x : Int}, x ∈ xs → x ≤ maxI xs
  | [], _, h => by cases h
  | [a], x, h => by
    have : x = a := by simpa using h
    subst this; exact Int.le_refl _
  | a :: b :: r, x, h => by
    have e : maxI (a :: b :: r) = if maxI (b :: r) > a then maxI (b :: r) else a := rfl
    rw [e]
    rcases List.mem_cons.mp h with rfl | h
    · split <;> omega
    · have := maxI_ge h
      split <;> omega
theorem maxI_mem : ∀ {xs : List Int}, xs ≠ [] → maxI xs ∈ xs
  | [], h => absurd rfl h
  | [a], _ => List.mem_singleton.mpr rfl
  | a :: b :: r, _ => by
    have e : maxI (a :: b :: r) = if maxI (b :: r) > a then maxI (b :: r) else a := rfl
    rw [e]
    split
    · exact List.mem_cons_of_mem _ (maxI_mem (by simp))
    · exact List.mem_cons_self
theorem intsOf_map : ∀ xs : List Int, intsOf (xs.map Val.int) = some xs
  | [] => rfl
  | a :: xs => by
    show (intsOf (xs.map Val.int)).map (a :: ·) = _
    rw [intsOf_map xs]; rfl
theorem bf_min {xs : List Int} (h : xs ≠ []) : evBf .minL [.lst (xs.map Val.int)] = .ok (.int (minI xs)) := by
  cases xs with
  | nil => exact absurd rfl h
  | cons a r =>
    show (match intsOf ((a :: r).map Val.int) with | some (a :: r) => R.ok (Val.int (minI (a :: r))) | _ => R.bad) = _
    rw [intsOf_map]
theorem bf_max {xs : List Int} (h : xs ≠ []) : evBf .maxL [.lst (xs.map Val.int)] = .ok (.int (maxI xs)) := by
  cases xs with
  | nil => exact absurd rfl h
  | cons a r =>
    show (match intsOf ((a :: r).map Val.int) with | some (a :: r) => R.ok (Val.int (maxI (a :: r))) | _ => R.bad) = _
    rw [intsOf_map]
theorem in_ints {n : Bool} {k : Int} {xs : List Int} : evIn n (Val.int k) (.lst (xs.map Val.int)) = .ok (.bl (if n then !decide (k ∈ xs) else decide (k ∈ xs))) := by
  have hf : (flat (Val.int k) && (xs.map Val.int).all flat) = true := by
    rw [show flat (Val.int k) = true from rfl, Bool.true_and, List.all_eq_true]
    intro x hx
    obtain ⟨z, _, rfl⟩ := List.mem_map.mp hx; rfl
  have hi : L2.inV (toV (Val.int k)) ((xs.map Val.int).map toV) = decide (k ∈ xs) := by
    unfold L2.inV
    rw [List.map_map, List.any_map]
    apply Bool.eq_iff_iff.mpr
    rw [List.any_eq_true, decide_eq_true_eq]
    constructor
    · rintro ⟨x, hx, h⟩
      have h : (x == k) = true := h
      have := eq_of_beq h
      subst this; exact hx
    · intro h
      exact ⟨k, h, show (k == k) = true from beq_self_eq_true k⟩
  show (if flat (Val.int k) && (xs.map Val.int).all flat then R.ok (Val.bl (if n then !L2.inV (toV (Val.int k)) ((xs.map Val.int).map toV) else L2.inV (toV (Val.int k)) ((xs.map Val.int).map toV))) else _) = _
  rw [if_pos hf, hi]
/-- a comprehension over items, whatever comes -/
theorem lcR_items {α : Type} {cl : Nat → List Val → R (Val × Bool)} {i : Nat} {env : Env} {el : E} {f g : α → Val} {l : List α} (hm : l.length ≤ 1000000) (h : ∀ q ∈ l, (evE cl el ((env.set i none).set i (some (f q, false)))).map (·.1) = .ok (g q)) :
    lcR cl (.ok (l.map f)) (.one i) none el env = .ok (.lst (l.map g)) := by
  rw [lcR_ok, List.length_map, if_pos (lenOk_lit hm)]
  have e : lcLoop (.one i) (wipeE env (tgs (.one i))) (fun env' => (evC cl none env').noexc) (fun env' => (vlE cl el env').noexc) (l.map f) = .ok (l.map g) := by
    induction l with
    | nil => rfl
    | cons a l ih =>
      rw [List.map_cons, lc_cons, ih (by simp at hm; omega) fun q hq => h q (List.mem_cons_of_mem _ hq)]
      have h1 := h a List.mem_cons_self
      have e1 : vlE cl el (put (wipeE env (tgs (.one i))) i (f a) false) = .ok (g a) := h1
      simp only [bind_one, R.bind_ok, evC_none, R.noexc_ok, if_true, e1, List.map_cons]
  rw [e]; rfl
/-! ### sign_of -/
def fd_sign_of : FD := ⟨1, 3, [.set 1 (.lc (.one 2) (.val (.bor 0)) none (.call 3 [(.bor 2)])), .ifs (.and (.cmp .ge (.blt .minL [(.bor 1)]) (.cst (.int 0))) (.cmp .gt (.blt .maxL [(.bor 1)]) (.cst (.int 0)))) [.ret (.cst (.int 1))] [], .ifs (.and (.cmp .le (.blt .maxL [(.bor 1)]) (.cst (.int 0))) (.cmp .lt (.blt .minL [(.bor 1)]) (.cst (.int 0)))) [.ret (.neg (.cst (.int 1)))] [], .ret (.cst (.int 0))]⟩
section
local macro_rules | `(tactic| walk_at "ev") => `(tactic| simp only [vl_nm, vl_bor, vl_cst, vl_bin, vl_neg, vl_cmp, vl_isn, vl_chn, vl_inn, vl_and, vl_or, vl_not, vl_ifx, vl_ix, vl_slc, vl_rev, vl_tup, vl_lst, vl_call, vl_blt, vl_isi, vl_lc, ev_nm, ev_cst, ev_bin, ev_neg, ev_cmp, ev_isn, ev_chn, ev_inn, ev_and, ev_or, ev_not, ev_ifx, ev_ix, ev_slc, ev_rev, ev_tup, ev_lst, ev_call, ev_blt, ev_isi, ev_lc, evEs_nil, evEs_cons, evAs_nil, evAs_cons, evO_none, evO_some, evC_none, evC_some, evIt_val, evIt_rng1, evIt_rng2, evIt_rvd, evT_vl, andR_t, andR_f, orR_f, orR_t, ifxR_t, ifxR_f, chnR_t, chnR_f, ss_nil', ss_cons', thn_nx, thn_ret, thn_exc, thn_bad, s_set', set_ok, set_exc, s_unp', unp_ok, s_ifs', if_t, if_f, s_for', for_ok, s_whl', s_ret', s_retn', s_pass', s_rse', s_exp', s_try', try_nx, try_ret, try_exc, s_par', s_par3', s_six', s_app', s_pop', s_popu', s_rev', rO_ok, rO_exc, ret_nm, ret_bor, ret_cst, ret_bin, ret_neg, ret_cmp, ret_isn, ret_chn, ret_inn, ret_and, ret_or, ret_not, ret_ifx, ret_ix, ret_slc, ret_rev, ret_tup, ret_lst, ret_call, ret_blt, ret_isi, ret_lc, fin_nx, fin_ret, fin_exc, b_add, b_sub, b_mul, b_fdiv, b_mod, p11, p12, p30, p42, p57, p59, b_addL, b_addT, b_mulL, c_lt, c_le, c_gt, c_ge, truth_bl, toI_int, toB_bl, items_lst, items_tup, len_lst, len_tup, len_scr, abs_int, int_int, int_bl, list_lst, list_tup, list_scr, tuple_lst, tuple_tup, max_int, min_int, ix_p0, ix_p1, c_eqI, c_neI, startE, frzE, frzI, frzAll, frz, kept, keptL, keptO, keptI, put, look, lookF, ownL_s, ownS_lst, evCall, lent, borI, bind_one, bind_tup, putAll, isLst_int, isLst_bl, isLst_str, isLst_tup, isLst_non, isLst_scr, isLst_exc, isLst_lst, isNon_int, isNon_bl, isNon_str, isNon_tup, isNon_non, isNon_scr, isNon_exc, isNon_lst, R.bind_ok, R.bind_exc, R.map_ok, R.map_exc, List.map_cons, List.map_nil, List.length_cons, List.length_nil, List.replicate, List.cons_append, List.nil_append, List.append_nil, List.getElem?_cons_zero, List.getElem?_cons_succ, List.set_cons_zero, List.set_cons_succ, Bool.false_and, Bool.true_and, Bool.and_true, Bool.and_false, Bool.or_false, Bool.false_or, Bool.or_true, Bool.true_or, Bool.not_true, Bool.not_false, decide_true, decide_false, if_true, if_false, ite_true, ite_false, reduceCtorEq, reduceIte, Nat.reduceAdd, Nat.reduceSub, Nat.reduceMul, Nat.reduceEqDiff, Int.reduceEq, Int.reduceLT, Int.reduceLE, Int.reduceNe, Int.reduceNeg, Int.reduceAdd, Int.reduceMul, Int.reduceSub, Nat.reduceLT, Nat.reduceLeDiff, Int.reduceGT, Int.reduceGE, is_tup_tuple, is_tup_list, is_tup_int, is_tup_bool, is_tup_str, is_lst_tuple, is_lst_list, is_lst_int, is_lst_bool, is_lst_str, is_int_tuple, is_int_list, is_int_int, is_int_bool, is_int_str, is_bl_tuple, is_bl_list, is_bl_int, is_bl_bool, is_bl_str, is_str_tuple, is_str_list, is_str_int, is_str_bool, is_str_str, is_non_tuple, is_non_list, is_non_int, is_non_bool, is_non_str, forS_ok, forB_nx, forB_ret, forL_nil, lc_nil, Int.cast_ofNat_Int, lc_cons, vlE_d, lenOk0, lenOk1, lenOk2, lenOk3, wipe1, wipe2, R.noexc_ok, decide_eq_true_eq, eq_self, ix_nv0, ix_nv1, is_nv_tuple, is_cv_tuple, is_lv_list, is_lv_tuple, is_cv_list, isLst_nv, isLst_cv, isLst_lv, isNon_nv, isNon_cv, isNon_lv, bind_nv, items_cv, items_lv, len_cv, len_lv, list_cv, list_lv, tuple_cv, tuple_lv, c_eqN, c_neN, c_eqC, c_neC, c_eqL, c_neL, nv01, nv11, cv_nil, cv_one, rev_lv, rev_cv, lv_one, lv_map, cv_map, lenOk_map, List.length_map, ownS_lv, back_bl, back_int, back_nv, back_cv, back_lv, c_eqB, c_neB])
local macro_rules | `(tactic| walk_at "evh") => `(tactic| simp only [vl_nm, vl_bor, vl_cst, vl_bin, vl_neg, vl_cmp, vl_isn, vl_chn, vl_inn, vl_and, vl_or, vl_not, vl_ifx, vl_ix, vl_slc, vl_rev, vl_tup, vl_lst, vl_call, vl_blt, vl_isi, vl_lc, ev_nm, ev_cst, ev_bin, ev_neg, ev_cmp, ev_isn, ev_chn, ev_inn, ev_and, ev_or, ev_not, ev_ifx, ev_ix, ev_slc, ev_rev, ev_tup, ev_lst, ev_call, ev_blt, ev_isi, ev_lc, evEs_nil, evEs_cons, evAs_nil, evAs_cons, evO_none, evO_some, evC_none, evC_some, evIt_val, evIt_rng1, evIt_rng2, evIt_rvd, evT_vl, andR_t, andR_f, orR_f, orR_t, ifxR_t, ifxR_f, chnR_t, chnR_f, ss_nil', ss_cons', thn_nx, thn_ret, thn_exc, thn_bad, s_set', set_ok, set_exc, s_unp', unp_ok, s_ifs', if_t, if_f, s_for', for_ok, s_whl', s_ret', s_retn', s_pass', s_rse', s_exp', s_try', try_nx, try_ret, try_exc, s_par', s_par3', s_six', s_app', s_pop', s_popu', s_rev', rO_ok, rO_exc, ret_nm, ret_bor, ret_cst, ret_bin, ret_neg, ret_cmp, ret_isn, ret_chn, ret_inn, ret_and, ret_or, ret_not, ret_ifx, ret_ix, ret_slc, ret_rev, ret_tup, ret_lst, ret_call, ret_blt, ret_isi, ret_lc, fin_nx, fin_ret, fin_exc, b_add, b_sub, b_mul, b_fdiv, b_mod, p11, p12, p30, p42, p57, p59, b_addL, b_addT, b_mulL, c_lt, c_le, c_gt, c_ge, truth_bl, toI_int, toB_bl, items_lst, items_tup, len_lst, len_tup, len_scr, abs_int, int_int, int_bl, list_lst, list_tup, list_scr, tuple_lst, tuple_tup, max_int, min_int, ix_p0, ix_p1, c_eqI, c_neI, startE, frzE, frzI, frzAll, frz, kept, keptL, keptO, keptI, put, look, lookF, ownL_s, ownS_lst, evCall, lent, borI, bind_one, bind_tup, putAll, isLst_int, isLst_bl, isLst_str, isLst_tup, isLst_non, isLst_scr, isLst_exc, isLst_lst, isNon_int, isNon_bl, isNon_str, isNon_tup, isNon_non, isNon_scr, isNon_exc, isNon_lst, R.bind_ok, R.bind_exc, R.map_ok, R.map_exc, List.map_cons, List.map_nil, List.length_cons, List.length_nil, List.replicate, List.cons_append, List.nil_append, List.append_nil, List.getElem?_cons_zero, List.getElem?_cons_succ, List.set_cons_zero, List.set_cons_succ, Bool.false_and, Bool.true_and, Bool.and_true, Bool.and_false, Bool.or_false, Bool.false_or, Bool.or_true, Bool.true_or, Bool.not_true, Bool.not_false, decide_true, decide_false, if_true, if_false, ite_true, ite_false, reduceCtorEq, reduceIte, Nat.reduceAdd, Nat.reduceSub, Nat.reduceMul, Nat.reduceEqDiff, Int.reduceEq, Int.reduceLT, Int.reduceLE, Int.reduceNe, Int.reduceNeg, Int.reduceAdd, Int.reduceMul, Int.reduceSub, Nat.reduceLT, Nat.reduceLeDiff, Int.reduceGT, Int.reduceGE, is_tup_tuple, is_tup_list, is_tup_int, is_tup_bool, is_tup_str, is_lst_tuple, is_lst_list, is_lst_int, is_lst_bool, is_lst_str, is_int_tuple, is_int_list, is_int_int, is_int_bool, is_int_str, is_bl_tuple, is_bl_list, is_bl_int, is_bl_bool, is_bl_str, is_str_tuple, is_str_list, is_str_int, is_str_bool, is_str_str, is_non_tuple, is_non_list, is_non_int, is_non_bool, is_non_str, forS_ok, forB_nx, forB_ret, forL_nil, lc_nil, Int.cast_ofNat_Int, lc_cons, vlE_d, lenOk0, lenOk1, lenOk2, lenOk3, wipe1, wipe2, R.noexc_ok, decide_eq_true_eq, eq_self, ix_nv0, ix_nv1, is_nv_tuple, is_cv_tuple, is_lv_list, is_lv_tuple, is_cv_list, isLst_nv, isLst_cv, isLst_lv, isNon_nv, isNon_cv, isNon_lv, bind_nv, items_cv, items_lv, len_cv, len_lv, list_cv, list_lv, tuple_cv, tuple_lv, c_eqN, c_neN, c_eqC, c_neC, c_eqL, c_neL, nv01, nv11, cv_nil, cv_one, rev_lv, rev_cv, lv_one, lv_map, cv_map, lenOk_map, List.length_map, ownS_lv, back_bl, back_int, back_nv, back_cv, back_lv, c_eqB, c_neB, *])
theorem sgs_min {l : List Rat} (h : l ≠ []) : sgs l = if 0 ≤ minI (l.map sgI) ∧ 0 < maxI (l.map sgI) then 1 else if maxI (l.map sgI) ≤ 0 ∧ minI (l.map sgI) < 0 then -1 else 0 := by
  have hne : l.map sgI ≠ [] := by simpa using h
  have a1 : (∀ q ∈ l, (0 : Rat) ≤ q) ↔ 0 ≤ minI (l.map sgI) := by
    constructor
    · intro hq
      obtain ⟨q, hm, e⟩ := List.mem_map.mp (minI_mem hne)
      rw [← e]
      rcases sgI_cases q with ⟨_, e⟩ | ⟨hl, _⟩ | ⟨_, e⟩
      · omega
      · exact absurd hl (Rat.not_lt.mpr (hq q hm))
      · omega
    · intro hq q hm
      have := minI_le (List.mem_map_of_mem (f := sgI) hm)
      rcases sgI_cases q with ⟨hl, _⟩ | ⟨_, e⟩ | ⟨e, _⟩
      · exact Rat.le_of_lt hl
      · omega
      · rw [e]; exact Rat.le_refl
  have a2 : (∃ q ∈ l, (0 : Rat) < q) ↔ 0 < maxI (l.map sgI) := by
    constructor
    · rintro ⟨q, hm, hl⟩
      have := maxI_ge (List.mem_map_of_mem (f := sgI) hm)
      rw [sgI_pos hl] at this; omega
    · intro hx
      obtain ⟨q, hm, e⟩ := List.mem_map.mp (maxI_mem hne)
      rw [← e] at hx
      rcases sgI_cases q with ⟨hl, _⟩ | ⟨_, e⟩ | ⟨_, e⟩
      · exact ⟨q, hm, hl⟩
      · omega
      · omega
  have a3 : (∀ q ∈ l, q ≤ (0 : Rat)) ↔ maxI (l.map sgI) ≤ 0 := by
    constructor
    · intro hq
      obtain ⟨q, hm, e⟩ := List.mem_map.mp (maxI_mem hne)
      rw [← e]
      rcases sgI_cases q with ⟨hl, _⟩ | ⟨_, e⟩ | ⟨_, e⟩
      · exact absurd hl (Rat.not_lt.mpr (hq q hm))
      · omega
      · omega
    · intro hq q hm
      have := maxI_ge (List.mem_map_of_mem (f := sgI) hm)
      rcases sgI_cases q with ⟨_, e⟩ | ⟨hl, _⟩ | ⟨e, _⟩
      · omega
      · exact Rat.le_of_lt hl
      · rw [e]; exact Rat.le_refl
  have a4 : (∃ q ∈ l, q < (0 : Rat)) ↔ minI (l.map sgI) < 0 := by
    constructor
    · rintro ⟨q, hm, hl⟩
      have := minI_le (List.mem_map_of_mem (f := sgI) hm)
      rw [sgI_neg hl] at this; omega
    · intro hx
      obtain ⟨q, hm, e⟩ := List.mem_map.mp (minI_mem hne)
      rw [← e] at hx
      rcases sgI_cases q with ⟨_, e⟩ | ⟨hl, _⟩ | ⟨_, e⟩
      · omega
      · exact ⟨q, hm, hl⟩
      · omega
  unfold sgs
  simp only [a1, a2, a3, a4]
theorem callF_sign_of {FT : Nat → Option FD} (h3 : FT 3 = some fd_sign) (h36 : FT 36 = some fd_sign_of) {n : Nat} {l : List Rat} (h : l ≠ []) (hl : l.length ≤ 1000) : callF FT (n + 2) 36 [lv l] = .ok (.int (sgs l), false) := by
  rw [callF_s h36 rfl]
  have e : lcR (callF FT (n + 1)) (.ok (l.map nv)) (.one 2) none (.call 3 [(.bor 2)]) [some (lv l, false), none, none] = .ok (.lst (l.map fun q => Val.int (sgI q))) := lcR_items (by omega) fun q hq => by
    have c : callF FT (n + 1) 3 [nv q] = .ok (.int (sgI q), false) := callF_sign h3 (n := n) (p := q)
    walk_at "evh"
  have em : (l.map fun q => Val.int (sgI q)) = (l.map sgI).map Val.int := by rw [List.map_map]; rfl
  rw [em] at e
  have hne : l.map sgI ≠ [] := by simpa using h
  have e1 := bf_min hne
  have e2 := bf_max hne
  rw [sgs_min h]
  generalize l.map sgI = xs at *
  clear hne em
  unfold fd_sign_of
  by_cases c1 : 0 ≤ minI xs
  · by_cases c2 : 0 < maxI xs
    · rw [if_pos ⟨c1, c2⟩]; walk_at "evh"
    · have c4 : ¬ minI xs < 0 := by omega
      rw [if_neg (fun z => c2 z.2), if_neg (fun z => c4 z.2)]
      by_cases c3 : maxI xs ≤ 0 <;> walk_at "evh"
  · have c4 : minI xs < 0 := by omega
    rw [if_neg (fun z => c1 z.1)]
    by_cases c3 : maxI xs ≤ 0
    · rw [if_pos ⟨c3, c4⟩]; walk_at "evh"
    · rw [if_neg (fun z => c3 z.1)]; walk_at "evh"
end
end G

set_option linter.all false
/-! M7: beyond which a curve is nowhere nought. -/
namespace G
theorem ld_one {a : Rat} : ld [a] = a := rfl
theorem ld_cons {a b : Rat} {t : List Rat} : ld (a :: b :: t) = ld (b :: t) := by
  unfold ld co
  simp
theorem div_ge {a c M x y : Rat} (ha : -M ≤ a / c) (h0 : 0 ≤ M) (hx : 1 + M ≤ x) (hy : 1 ≤ y / c) : 1 ≤ (a + x * y) / c := by
  have e : (a + x * y) / c = a / c + x * (y / c) := by rw [Rat.div_def, Rat.div_def, Rat.div_def]; grind
  rw [e]
  have h1 : 0 ≤ x - (1 + M) := by grind
  have h2 : 0 ≤ y / c - 1 := by grind
  have p1 := Rat.mul_nonneg h1 h2
  have p2 := Rat.mul_nonneg (show (0 : Rat) ≤ 1 + M by grind) h2
  grind
/-- far out, above -/
theorem far_up {c M x : Rat} (h0 : 0 ≤ M) (hx : 1 + M ≤ x) (hc : c ≠ 0) : ∀ l : List Rat, l ≠ [] → ld l = c → (∀ a ∈ l.dropLast, -M ≤ a / c) → 1 ≤ ev l x / c
  | [], h, _, _ => absurd rfl h
  | [a], _, e, _ => by
    rw [ld_one] at e
    subst e
    have : ev [a] x = a := by show a + x * 0 = a; grind
    rw [this, Rat.div_def, Rat.mul_inv_cancel _ hc]
    exact Rat.le_refl
  | a :: b :: t, _, e, h => by
    rw [ld_cons] at e
    have hd : (a :: b :: t).dropLast = a :: (b :: t).dropLast := rfl
    rw [hd] at h
    exact div_ge (h a List.mem_cons_self) h0 hx (far_up h0 hx hc (b :: t) (by simp) e fun q hq => h q (List.mem_cons_of_mem _ hq))
def alt (d : Nat) : Rat := if d % 2 = 0 then 1 else -1
theorem alt_succ {d : Nat} : alt (d + 1) = - alt d := by
  unfold alt
  by_cases h : d % 2 = 0
  · rw [if_pos h, if_neg (by omega)]
  · rw [if_neg h, if_pos (by omega)]; rfl
theorem alt_cases (d : Nat) : alt d = 1 ∨ alt d = -1 := by
  unfold alt
  split
  · exact .inl rfl
  · exact .inr rfl
/-- far out, below -/
theorem far_down {c M x : Rat} (h0 : 0 ≤ M) (hx : x ≤ -(1 + M)) (hc : c ≠ 0) : ∀ l : List Rat, l ≠ [] → ld l = c → (∀ a ∈ l.dropLast, -M ≤ a / c ∧ a / c ≤ M) → 1 ≤ (alt (l.length - 1) * ev l x) / c
  | [], h, _, _ => absurd rfl h
  | [a], _, e, _ => by
    rw [ld_one] at e
    subst e
    have : alt ([a].length - 1) * ev [a] x = a := by show 1 * (a + x * 0) = a; grind
    rw [this, Rat.div_def, Rat.mul_inv_cancel _ hc]
    exact Rat.le_refl
  | a :: b :: t, _, e, h => by
    rw [ld_cons] at e
    have hd : (a :: b :: t).dropLast = a :: (b :: t).dropLast := rfl
    rw [hd] at h
    have ih := far_down h0 hx hc (b :: t) (by simp) e fun q hq => h q (List.mem_cons_of_mem _ hq)
    obtain ⟨h1, h2⟩ := h a List.mem_cons_self
    have el : (a :: b :: t).length - 1 = (b :: t).length - 1 + 1 := by simp
    rw [el, alt_succ]
    have hs := alt_cases ((b :: t).length - 1)
    generalize alt ((b :: t).length - 1) = s at *
    have e2 : -s * ev (a :: b :: t) x = (-s * a) + (-x) * (s * ev (b :: t) x) := by rw [ev_cons]; grind
    rw [e2]
    refine div_ge ?_ h0 (by grind) ih
    rcases hs with rfl | rfl
    · have : (-1 * a) / c = -(a / c) := by rw [Rat.div_def, Rat.div_def]; grind
      rw [this]; grind
    · have : (- -1 * a) / c = a / c := by rw [Rat.div_def, Rat.div_def]; grind
      rw [this]; exact h1
/-- the greatest of the numbers but the last, each by the last, without sign -/
def absR (q : Rat) : Rat := if q < 0 then 0 - q else q
def grt (c : Rat) (l : List Rat) (g : Rat) : Rat := l.foldl (fun g a => if g < absR (a / c) then absR (a / c) else g) g
theorem absR_le {q M : Rat} (h : absR q ≤ M) : -M ≤ q ∧ q ≤ M := by
  unfold absR at h
  split at h <;> constructor <;> grind
theorem grt_ge {c : Rat} : ∀ (l : List Rat) (g : Rat), g ≤ grt c l g
  | [], g => Rat.le_refl
  | a :: l, g => by
    show g ≤ grt c l (if g < absR (a / c) then absR (a / c) else g)
    refine Rat.le_trans ?_ (grt_ge l _)
    split
    · exact Rat.le_of_lt (by assumption)
    · exact Rat.le_refl
theorem grt_mem {c : Rat} : ∀ (l : List Rat) (g a : Rat), a ∈ l → absR (a / c) ≤ grt c l g
  | [], g, a, h => by cases h
  | b :: l, g, a, h => by
    show _ ≤ grt c l (if g < absR (b / c) then absR (b / c) else g)
    rcases List.mem_cons.mp h with rfl | h
    · refine Rat.le_trans ?_ (grt_ge l _)
      split
      · exact Rat.le_refl
      · exact Rat.not_lt.mp (by assumption)
    · exact grt_mem l _ a h
def farP (l : List Rat) : Rat := 1 + grt (ld l) l.dropLast 0
theorem far_sign {l : List Rat} {x : Rat} (hl : l ≠ []) (hc : ld l ≠ 0) (hx : farP l ≤ x) : 1 ≤ ev l x / ld l ∧ 1 ≤ (alt (l.length - 1) * ev l (-x)) / ld l := by
  have h0 := grt_ge (c := ld l) l.dropLast 0
  have hm : ∀ a ∈ l.dropLast, -(grt (ld l) l.dropLast 0) ≤ a / ld l ∧ a / ld l ≤ grt (ld l) l.dropLast 0 := fun a ha => absR_le (grt_mem _ _ _ ha)
  unfold farP at hx
  exact ⟨far_up h0 hx hc l hl rfl fun a ha => (hm a ha).1, far_down h0 (by grind) hc l hl rfl hm⟩
/-- where a curve is nought lies within -/
theorem far_root {l : List Rat} {p : Rat} (hl : l ≠ []) (hc : ld l ≠ 0) (h : ev l p = 0) : p < farP l ∧ -(farP l) < p := by
  constructor
  · refine Classical.byContradiction fun z => ?_
    have := (far_sign hl hc (Rat.not_lt.mp z)).1
    rw [h, Rat.div_def, Rat.zero_mul] at this
    exact absurd this (by decide)
  · refine Classical.byContradiction fun z => ?_
    have z := Rat.not_lt.mp z
    have := (far_sign (x := -p) hl hc (by grind)).2
    rw [show - -p = p by grind, h, Rat.mul_zero, Rat.div_def, Rat.zero_mul] at this
    exact absurd this (by decide)
end G

set_option linter.all false
set_option maxHeartbeats 2000000
set_option maxRecDepth 10000
/-! F18: the squares' laws: what they draw with; are_squares. -/
namespace G
open PySem
local macro_rules | `(tactic| walk_at "ev") => `(tactic| simp only [vl_nm, vl_bor, vl_cst, vl_bin, vl_neg, vl_cmp, vl_isn, vl_chn, vl_inn, vl_and, vl_or, vl_not, vl_ifx, vl_ix, vl_slc, vl_rev, vl_tup, vl_lst, vl_call, vl_blt, vl_isi, vl_lc, ev_nm, ev_cst, ev_bin, ev_neg, ev_cmp, ev_isn, ev_chn, ev_inn, ev_and, ev_or, ev_not, ev_ifx, ev_ix, ev_slc, ev_rev, ev_tup, ev_lst, ev_call, ev_blt, ev_isi, ev_lc, evEs_nil, evEs_cons, evAs_nil, evAs_cons, evO_none, evO_some, evC_none, evC_some, evIt_val, evIt_rng1, evIt_rng2, evIt_rvd, evT_vl, andR_t, andR_f, orR_f, orR_t, ifxR_t, ifxR_f, chnR_t, chnR_f, ss_nil', ss_cons', thn_nx, thn_ret, thn_exc, thn_bad, s_set', set_ok, set_exc, s_unp', unp_ok, s_ifs', if_t, if_f, s_for', for_ok, s_whl', s_ret', s_retn', s_pass', s_rse', s_exp', s_try', try_nx, try_ret, try_exc, s_par', s_par3', s_six', s_app', s_pop', s_popu', s_rev', rO_ok, rO_exc, ret_nm, ret_bor, ret_cst, ret_bin, ret_neg, ret_cmp, ret_isn, ret_chn, ret_inn, ret_and, ret_or, ret_not, ret_ifx, ret_ix, ret_slc, ret_rev, ret_tup, ret_lst, ret_call, ret_blt, ret_isi, ret_lc, fin_nx, fin_ret, fin_exc, b_add, b_sub, b_mul, b_fdiv, b_mod, p11, p12, p30, p42, p57, p59, b_addL, b_addT, b_mulL, c_lt, c_le, c_gt, c_ge, truth_bl, toI_int, toB_bl, items_lst, items_tup, len_lst, len_tup, len_scr, abs_int, int_int, int_bl, list_lst, list_tup, list_scr, tuple_lst, tuple_tup, max_int, min_int, ix_p0, ix_p1, c_eqI, c_neI, startE, frzE, frzI, frzAll, frz, kept, keptL, keptO, keptI, put, look, lookF, ownL_s, ownS_lst, evCall, lent, borI, bind_one, bind_tup, putAll, isLst_int, isLst_bl, isLst_str, isLst_tup, isLst_non, isLst_scr, isLst_exc, isLst_lst, isNon_int, isNon_bl, isNon_str, isNon_tup, isNon_non, isNon_scr, isNon_exc, isNon_lst, R.bind_ok, R.bind_exc, R.map_ok, R.map_exc, List.map_cons, List.map_nil, List.length_cons, List.length_nil, List.replicate, List.cons_append, List.nil_append, List.append_nil, List.getElem?_cons_zero, List.getElem?_cons_succ, List.set_cons_zero, List.set_cons_succ, Bool.false_and, Bool.true_and, Bool.and_true, Bool.and_false, Bool.or_false, Bool.false_or, Bool.or_true, Bool.true_or, Bool.not_true, Bool.not_false, decide_true, decide_false, if_true, if_false, ite_true, ite_false, reduceCtorEq, reduceIte, Nat.reduceAdd, Nat.reduceSub, Nat.reduceMul, Nat.reduceEqDiff, Int.reduceEq, Int.reduceLT, Int.reduceLE, Int.reduceNe, Int.reduceNeg, Int.reduceAdd, Int.reduceMul, Int.reduceSub, Nat.reduceLT, Nat.reduceLeDiff, Int.reduceGT, Int.reduceGE, is_tup_tuple, is_tup_list, is_tup_int, is_tup_bool, is_tup_str, is_lst_tuple, is_lst_list, is_lst_int, is_lst_bool, is_lst_str, is_int_tuple, is_int_list, is_int_int, is_int_bool, is_int_str, is_bl_tuple, is_bl_list, is_bl_int, is_bl_bool, is_bl_str, is_str_tuple, is_str_list, is_str_int, is_str_bool, is_str_str, is_non_tuple, is_non_list, is_non_int, is_non_bool, is_non_str, forS_ok, forB_nx, forB_ret, forL_nil, lc_nil, Int.cast_ofNat_Int, lc_cons, vlE_d, lenOk0, lenOk1, lenOk2, lenOk3, wipe1, wipe2, R.noexc_ok, decide_eq_true_eq, eq_self, ix_nv0, ix_nv1, is_nv_tuple, is_cv_tuple, is_lv_list, is_lv_tuple, is_cv_list, isLst_nv, isLst_cv, isLst_lv, isNon_nv, isNon_cv, isNon_lv, bind_nv, items_cv, items_lv, len_cv, len_lv, list_cv, list_lv, tuple_cv, tuple_lv, c_eqN, c_neN, c_eqC, c_neC, c_eqL, c_neL, nv01, nv11, cv_nil, cv_one, rev_lv, rev_cv, lv_one, lv_map, cv_map, lenOk_map, List.length_map, ownS_lv, back_bl, back_int, back_nv, back_cv, back_lv, c_eqB, c_neB])
local macro_rules | `(tactic| walk_at "evh") => `(tactic| simp only [vl_nm, vl_bor, vl_cst, vl_bin, vl_neg, vl_cmp, vl_isn, vl_chn, vl_inn, vl_and, vl_or, vl_not, vl_ifx, vl_ix, vl_slc, vl_rev, vl_tup, vl_lst, vl_call, vl_blt, vl_isi, vl_lc, ev_nm, ev_cst, ev_bin, ev_neg, ev_cmp, ev_isn, ev_chn, ev_inn, ev_and, ev_or, ev_not, ev_ifx, ev_ix, ev_slc, ev_rev, ev_tup, ev_lst, ev_call, ev_blt, ev_isi, ev_lc, evEs_nil, evEs_cons, evAs_nil, evAs_cons, evO_none, evO_some, evC_none, evC_some, evIt_val, evIt_rng1, evIt_rng2, evIt_rvd, evT_vl, andR_t, andR_f, orR_f, orR_t, ifxR_t, ifxR_f, chnR_t, chnR_f, ss_nil', ss_cons', thn_nx, thn_ret, thn_exc, thn_bad, s_set', set_ok, set_exc, s_unp', unp_ok, s_ifs', if_t, if_f, s_for', for_ok, s_whl', s_ret', s_retn', s_pass', s_rse', s_exp', s_try', try_nx, try_ret, try_exc, s_par', s_par3', s_six', s_app', s_pop', s_popu', s_rev', rO_ok, rO_exc, ret_nm, ret_bor, ret_cst, ret_bin, ret_neg, ret_cmp, ret_isn, ret_chn, ret_inn, ret_and, ret_or, ret_not, ret_ifx, ret_ix, ret_slc, ret_rev, ret_tup, ret_lst, ret_call, ret_blt, ret_isi, ret_lc, fin_nx, fin_ret, fin_exc, b_add, b_sub, b_mul, b_fdiv, b_mod, p11, p12, p30, p42, p57, p59, b_addL, b_addT, b_mulL, c_lt, c_le, c_gt, c_ge, truth_bl, toI_int, toB_bl, items_lst, items_tup, len_lst, len_tup, len_scr, abs_int, int_int, int_bl, list_lst, list_tup, list_scr, tuple_lst, tuple_tup, max_int, min_int, ix_p0, ix_p1, c_eqI, c_neI, startE, frzE, frzI, frzAll, frz, kept, keptL, keptO, keptI, put, look, lookF, ownL_s, ownS_lst, evCall, lent, borI, bind_one, bind_tup, putAll, isLst_int, isLst_bl, isLst_str, isLst_tup, isLst_non, isLst_scr, isLst_exc, isLst_lst, isNon_int, isNon_bl, isNon_str, isNon_tup, isNon_non, isNon_scr, isNon_exc, isNon_lst, R.bind_ok, R.bind_exc, R.map_ok, R.map_exc, List.map_cons, List.map_nil, List.length_cons, List.length_nil, List.replicate, List.cons_append, List.nil_append, List.append_nil, List.getElem?_cons_zero, List.getElem?_cons_succ, List.set_cons_zero, List.set_cons_succ, Bool.false_and, Bool.true_and, Bool.and_true, Bool.and_false, Bool.or_false, Bool.false_or, Bool.or_true, Bool.true_or, Bool.not_true, Bool.not_false, decide_true, decide_false, if_true, if_false, ite_true, ite_false, reduceCtorEq, reduceIte, Nat.reduceAdd, Nat.reduceSub, Nat.reduceMul, Nat.reduceEqDiff, Int.reduceEq, Int.reduceLT, Int.reduceLE, Int.reduceNe, Int.reduceNeg, Int.reduceAdd, Int.reduceMul, Int.reduceSub, Nat.reduceLT, Nat.reduceLeDiff, Int.reduceGT, Int.reduceGE, is_tup_tuple, is_tup_list, is_tup_int, is_tup_bool, is_tup_str, is_lst_tuple, is_lst_list, is_lst_int, is_lst_bool, is_lst_str, is_int_tuple, is_int_list, is_int_int, is_int_bool, is_int_str, is_bl_tuple, is_bl_list, is_bl_int, is_bl_bool, is_bl_str, is_str_tuple, is_str_list, is_str_int, is_str_bool, is_str_str, is_non_tuple, is_non_list, is_non_int, is_non_bool, is_non_str, forS_ok, forB_nx, forB_ret, forL_nil, lc_nil, Int.cast_ofNat_Int, lc_cons, vlE_d, lenOk0, lenOk1, lenOk2, lenOk3, wipe1, wipe2, R.noexc_ok, decide_eq_true_eq, eq_self, ix_nv0, ix_nv1, is_nv_tuple, is_cv_tuple, is_lv_list, is_lv_tuple, is_cv_list, isLst_nv, isLst_cv, isLst_lv, isNon_nv, isNon_cv, isNon_lv, bind_nv, items_cv, items_lv, len_cv, len_lv, list_cv, list_lv, tuple_cv, tuple_lv, c_eqN, c_neN, c_eqC, c_neC, c_eqL, c_neL, nv01, nv11, cv_nil, cv_one, rev_lv, rev_cv, lv_one, lv_map, cv_map, lenOk_map, List.length_map, ownS_lv, back_bl, back_int, back_nv, back_cv, back_lv, c_eqB, c_neB, *])
def fd_law_drawn4 : FD := ⟨3, 4, [.set 3 (.bin .add (.bin .mul (.bin .mul (.cst (.int 104729)) (.bor 1)) (.bor 1)) (.cst (.int 48271))), .ifs (.cmp .gt (.blt .len [(.bor 0)]) (.cst (.int 0))) [.set 3 (.bin .add (.bor 3) (.bin .mul (.bin .mod (.ix (.bor 0) (.bin .mod (.bor 1) (.blt .len [(.bor 0)]))) (.bin .pow (.cst (.int 10)) (.cst (.int 40)))) (.bin .add (.bin .mul (.cst (.int 2)) (.bor 1)) (.cst (.int 69621)))))] [], .ret (.bin .mod (.bin .fdiv (.bin .mod (.bor 3) (.cst (.int 2147483647))) (.cst (.int 3))) (.bor 2))]⟩
def fd_law_number4 : FD := ⟨2, 3, [.set 2 (.bin .sub (.call 168 [(.nm 0), (.nm 1), (.cst (.int 13))]) (.cst (.int 6))), .ifs (.cmp .eq (.call 168 [(.nm 0), (.bin .add (.bor 1) (.cst (.int 2))), (.cst (.int 16))]) (.cst (.int 5))) [.set 2 (.bin .sub (.call 168 [(.nm 0), (.nm 1), (.cst (.int 1999))]) (.cst (.int 999)))] [], .ret (.call 1 [(.nm 2), (.ix (.lst [(.cst (.int 1)), (.cst (.int 1)), (.cst (.int 2)), (.cst (.int 3)), (.cst (.int 4)), (.cst (.int 6)), (.cst (.int 1)), (.cst (.int 25))]) (.call 168 [(.nm 0), (.bin .add (.bor 1) (.cst (.int 1))), (.cst (.int 8))]))])]⟩
def fd_are_squares : FD := ⟨2, 5, [.set 2 (.tup []), .for (.tup [3, 4]) (.val (.nm 1)) [.ifs (.or (.cmp .le (.call 3 [(.bor 3)]) (.cst (.int 0))) (.or (.cmp .eq (.bor 4) (.tup [])) (.cmp .gt (.blt .len [(.bor 4)]) (.bin .add (.cst (.int 6)) (.cst (.int 1)))))) [.ret (.cst (.bl false))] [], .set 2 (.call 13 [(.nm 2), (.call 12 [(.call 16 [(.nm 4), (.nm 4)]), (.nm 3)])])], .ret (.cmp .eq (.bor 2) (.bor 0))]⟩
/-- what is drawn -/
def d4b (ns : List Int) (k : Int) : Int := if 0 < ns.length then 104729 * k * k + 48271 + ((L2.atI ns (k.fmod ns.length)).getD 0).fmod (10 ^ 40) * (2 * k + 69621) else 104729 * k * k + 48271
def d4 (ns : List Int) (k s : Int) : Int := (((d4b ns k).fmod 2147483647).fdiv 3).fmod s
theorem d4_bd (ns : List Int) (k : Int) {s : Int} (hs : 0 < s) : 0 ≤ d4 ns k s ∧ d4 ns k s < s := fmod_bd _ hs
theorem p40 : evBin .pow (.int 10) (.int 40) = .ok (.int (10 ^ 40)) := pow_ev rfl (by decide)
section
variable {FT : Nat → Option FD}
theorem callF_drawn4 (h : FT 168 = some fd_law_drawn4) {n : Nat} {ns : List Int} {k s : Int} (k0 : 0 ≤ k) (k1 : k < 10000) (hs : 0 < s) : callF FT (n + 1) 168 [.scr ns, .int k, .int s] = .ok (.int (d4 ns k s), false) := by
  rw [callF_s h rfl]
  have hs0 : ¬ s = 0 := by omega
  have kk : k.natAbs < 2 ^ 14 := natAbs_lt_pow (by omega) (by omega)
  have m1 : mulOk 104729 k = true := mul_small (m := 17) (n := 14) (by decide) kk (by decide)
  have m2 : mulOk (104729 * k) k = true := mul_small (m := 31) (n := 14) (mul_sz (m := 17) (by decide) kk) kk (by decide)
  have m3 : mulOk 2 k = true := mul_small (m := 2) (n := 14) (by decide) kk (by decide)
  have e1 : ∀ b : Int, d4b ns k = b → fin (evSs (callF FT n) [.ret (.bin .mod (.bin .fdiv (.bin .mod (.bor 3) (.cst (.int 2147483647))) (.cst (.int 3))) (.bor 2))] [some (.scr ns, false), some (.int k, false), some (.int s, false), some (.int b, false)]) = .ok (.int (d4 ns k s), false) := fun b hb => by
    unfold d4
    rw [hb]
    clear m1 m2 m3 kk hb
    walk_at "evh"
  have eb : fd_law_drawn4.body = [.set 3 (.bin .add (.bin .mul (.bin .mul (.cst (.int 104729)) (.bor 1)) (.bor 1)) (.cst (.int 48271))), .ifs (.cmp .gt (.blt .len [(.bor 0)]) (.cst (.int 0))) [.set 3 (.bin .add (.bor 3) (.bin .mul (.bin .mod (.ix (.bor 0) (.bin .mod (.bor 1) (.blt .len [(.bor 0)]))) (.bin .pow (.cst (.int 10)) (.cst (.int 40)))) (.bin .add (.bin .mul (.cst (.int 2)) (.bor 1)) (.cst (.int 69621)))))] []] ++ [.ret (.bin .mod (.bin .fdiv (.bin .mod (.bor 3) (.cst (.int 2147483647))) (.cst (.int 3))) (.bor 2))] := rfl
  rw [eb, show fd_law_drawn4.nl = 4 from rfl, ss_app]
  by_cases h0 : 0 < ns.length
  · have hl : (0 : Int) < ns.length := by omega
    have hl2 : ¬ (ns.length : Int) = 0 := by omega
    have b := fmod_bd k hl
    obtain ⟨z, hz, _⟩ := atI_ex (xs := ns) b.1 b.2
    have ec : d4b ns k = 104729 * k * k + 48271 + z.fmod (10 ^ 40) * (2 * k + 69621) := by unfold d4b; rw [if_pos h0, hz]; rfl
    have ez : ofO ((L2.atI ns (k.fmod ns.length)).map Val.int) = .ok (.int z) := by rw [hz]; rfl
    have ix : evIx (.scr ns) (.int (k.fmod ns.length)) = .ok (.int z) := ez
    have bz := fmod_bd z (b := 10 ^ 40) (by decide)
    have bq : (z.fmod (10 ^ 40)).natAbs < 2 ^ 133 := natAbs_lt_pow (Int.lt_trans bz.2 (by decide)) (Int.lt_of_lt_of_le (by decide) bz.1)
    have m4 : mulOk (z.fmod (10 ^ 40)) (2 * k + 69621) = true := mul_small (m := 133) (n := 18) bq (natAbs_lt_pow (by omega) (by omega)) (by decide)
    have pz : ¬ ((10 : Int) ^ 40) = 0 := by decide
    have p4 := p40
    have e2 : evSs (callF FT n) [.set 3 (.bin .add (.bin .mul (.bin .mul (.cst (.int 104729)) (.bor 1)) (.bor 1)) (.cst (.int 48271))), .ifs (.cmp .gt (.blt .len [(.bor 0)]) (.cst (.int 0))) [.set 3 (.bin .add (.bor 3) (.bin .mul (.bin .mod (.ix (.bor 0) (.bin .mod (.bor 1) (.blt .len [(.bor 0)]))) (.bin .pow (.cst (.int 10)) (.cst (.int 40)))) (.bin .add (.bin .mul (.cst (.int 2)) (.bor 1)) (.cst (.int 69621)))))] []] (startE 4 [.scr ns, .int k, .int s]) = .nx [some (.scr ns, false), some (.int k, false), some (.int s, false), some (.int (104729 * k * k + 48271 + z.fmod (10 ^ 40) * (2 * k + 69621)), false)] := by
      clear e1 bz b hz ec kk eb bq
      generalize (10 : Int) ^ 40 = P at *
      walk_at "evh"
    rw [e2, thn_nx]
    exact e1 _ ec
  · have hl : ¬ (0 : Int) < ns.length := by omega
    have ec : d4b ns k = 104729 * k * k + 48271 := by unfold d4b; rw [if_neg h0]
    have e2 : evSs (callF FT n) [.set 3 (.bin .add (.bin .mul (.bin .mul (.cst (.int 104729)) (.bor 1)) (.bor 1)) (.cst (.int 48271))), .ifs (.cmp .gt (.blt .len [(.bor 0)]) (.cst (.int 0))) [.set 3 (.bin .add (.bor 3) (.bin .mul (.bin .mod (.ix (.bor 0) (.bin .mod (.bor 1) (.blt .len [(.bor 0)]))) (.bin .pow (.cst (.int 10)) (.cst (.int 40)))) (.bin .add (.bin .mul (.cst (.int 2)) (.bor 1)) (.cst (.int 69621)))))] []] (startE 4 [.scr ns, .int k, .int s]) = .nx [some (.scr ns, false), some (.int k, false), some (.int s, false), some (.int (104729 * k * k + 48271), false)] := by
      clear e1 ec kk eb
      walk_at "evh"
    rw [e2, thn_nx]
    exact e1 _ ec
theorem forL_consR {tg : Tg} {b : Env → O} {x : Val} {xs : List Val} {env env1 : Env} {v : Val} {f : Bool} (h1 : bindT tg env x = .ok env1) (h2 : b env1 = .ret v f) : forL tg b (x :: xs) env = .ret v f := by
  show (match bindT tg env x with | .ok env1 => (match b env1 with | .nx env' => forL tg b xs env' | .cnt env' => forL tg b xs env' | .brk env' => .nx env' | o => o) | _ => .bad) = _
  rw [h1]; dsimp only; rw [h2]
/-! ### weighted squares -/
def pr (p : Rat × List Rat) : Val := .tup [nv p.1, cv p.2]
def pl (L : List (Rat × List Rat)) : Val := .lst (L.map pr)
def PB (K : Nat) (p : Rat × List Rat) : Prop := Bd K p.1 ∧ BL K p.2 ∧ p.2.length ≤ 13
def Okp (p : Rat × List Rat) : Prop := 0 < p.1 ∧ p.2 ≠ [] ∧ p.2.length ≤ 7
def sqP (p : Rat × List Rat) : List Rat := sclP (mulP p.2 p.2) p.1
def totF (s : List Rat) (L : List (Rat × List Rat)) : List Rat := L.foldl (fun s p => addP s (sqP p)) s
def totP (L : List (Rat × List Rat)) : List Rat := totF [] L
theorem bind_pr {i j : Nat} {env : Env} {p : Rat × List Rat} : bindT (.tup [i, j]) env (pr p) = .ok (put (put env i (nv p.1) false) j (cv p.2) false) := rfl
theorem sq_len {p : Rat × List Rat} (h : p.2.length ≤ 7) : (sqP p).length ≤ 13 ∧ (mulP p.2 p.2).length ≤ 13 := by
  have h1 := mulP_le p.2 p.2
  have h2 : (sqP p).length ≤ (mulP p.2 p.2).length := Nat.le_trans (trim_len _) (by unfold sclR; rw [List.length_map]; exact Nat.le_refl _)
  omega
def sqB : List S := [.set 2 (.call 13 [(.nm 2), (.call 12 [(.call 16 [(.nm 4), (.nm 4)]), (.nm 3)])])]
variable (h0 : FT 0 = some fd_divisor_of) (h1 : FT 1 = some fd_number) (h4 : FT 4 = some fd_plus) (h6 : FT 6 = some fd_times) (h8 : FT 8 = some fd_without_noughts) (h9 : FT 9 = some fd_curve_of) (h11 : FT 11 = some fd_at_power) (h12 : FT 12 = some fd_scaled) (h13 : FT 13 = some fd_added) (h15 : FT 15 = some fd_product) (h16 : FT 16 = some fd_multiplied)
include h0 h1 h4 h6 h8 h9 h11 h12 h13 h15 h16
/-- one square more -/
theorem one_sq {n K j : Nat} {s : List Rat} {p : Rat × List Rat} (hp : PB (K + 1) p) (h7 : p.2.length ≤ 7) (bs : BL (j + 1) s) (ls : s.length ≤ 13) (hK : K ≤ 100000) (hj : j ≤ 10000000) :
    callF FT (n + 5) 16 [cv p.2, cv p.2] = .ok (cv (mulP p.2 p.2), false) ∧ callF FT (n + 5) 12 [cv (mulP p.2 p.2), nv p.1] = .ok (cv (sqP p), false) ∧ callF FT (n + 5) 13 [cv s, cv (sqP p)] = .ok (cv (addP s (sqP p)), false) ∧ BL (j + 15 * K + 40 + 1) (addP s (sqP p)) ∧ (addP s (sqP p)).length ≤ 13 := by
  obtain ⟨bp, bc, _⟩ := hp
  obtain ⟨l1, l2⟩ := sq_len h7
  have hl := Nat.mul_le_mul_right (K + K + 3) h7
  have e1 := callF_multiplied h0 h1 h4 h6 h8 h9 h15 h16 (n := n) bc bc (by omega) (by omega) (by omega)
  rw [if_pos l2] at e1
  have bm := (callF_product h0 h1 h4 h6 h8 h15 (n := n) bc bc (by omega) (by omega) (by omega)).2
  have e2 : callF FT (n + 5) 12 [cv (mulP p.2 p.2), nv p.1] = _ := callF_scaled h0 h1 h6 h8 h12 (n := n + 1) bm bp (by omega) (by omega)
  have bq : BL (15 * K + 22 + 1) (sqP p) := (BL.scl bm bp).mono (by omega)
  have e3 : callF FT (n + 5) 13 [cv s, cv (sqP p)] = _ := callF_added h0 h1 h4 h8 h11 h13 (n := n + 1) bs bq (by omega) (by omega) (by omega)
  exact ⟨e1, e2, e3, (BL.addP bs bq).mono (by omega), Nat.le_trans (addP_len _ _) (by omega)⟩
theorem sq_loop (h3 : FT 3 = some fd_sign) {n K : Nat} {C M : Val} (hK : K ≤ 100000) : ∀ (L : List (Rat × List Rat)) (s : List Rat) (j : Nat) (z3 z4 : Option (Val × Bool)), (∀ p ∈ L, PB (K + 1) p) → BL (j + 1) s → s.length ≤ 13 → j + L.length * (15 * K + 40) ≤ 10000000 →
    (∃ y3 y4, (∀ p ∈ L, Okp p) ∧ forL (.tup [3, 4]) (fun env' => evSs (callF FT (n + 5)) (.ifs (.or (.cmp .le (.call 3 [(.bor 3)]) (.cst (.int 0))) (.or (.cmp .eq (.bor 4) (.tup [])) (.cmp .gt (.blt .len [(.bor 4)]) (.bin .add (.cst (.int 6)) (.cst (.int 1)))))) [.ret (.cst (.bl false))] [] :: sqB) env') (L.map pr) [some (C, false), some (M, false), some (cv s, false), z3, z4] = .nx [some (C, false), some (M, false), some (cv (totF s L), false), y3, y4]) ∨
    ((¬ ∀ p ∈ L, Okp p) ∧ forL (.tup [3, 4]) (fun env' => evSs (callF FT (n + 5)) (.ifs (.or (.cmp .le (.call 3 [(.bor 3)]) (.cst (.int 0))) (.or (.cmp .eq (.bor 4) (.tup [])) (.cmp .gt (.blt .len [(.bor 4)]) (.bin .add (.cst (.int 6)) (.cst (.int 1)))))) [.ret (.cst (.bl false))] [] :: sqB) env') (L.map pr) [some (C, false), some (M, false), some (cv s, false), z3, z4] = .ret (.bl false) false)
  | [], s, j, z3, z4, _, _, _, _ => .inl ⟨_, _, (fun _ h => by cases h), rfl⟩
  | p :: L, s, j, z3, z4, hp, bs, ls, hj => by
    have c : callF FT (n + 5) 3 [nv p.1] = .ok (.int (sgI p.1), false) := callF_sign h3 (n := n + 4) (p := p.1)
    rw [List.length_cons, Nat.succ_mul] at hj
    by_cases hok : Okp p
    · obtain ⟨o1, o2, o3⟩ := hok
      obtain ⟨e1, e2, e3, b3, l3⟩ := one_sq h0 h1 h4 h6 h8 h9 h11 h12 h13 h15 h16 (n := n) (hp p List.mem_cons_self) o3 bs ls hK (by omega)
      have ih := sq_loop h3 (n := n) (C := C) (M := M) hK L (addP s (sqP p)) (j + 15 * K + 40) (some (nv p.1, false)) (some (cv p.2, false)) (fun q hq => hp q (List.mem_cons_of_mem _ hq)) b3 l3 (by omega)
      rw [sgI_pos o1] at c
      have d2 : decide (p.2 = []) = false := decide_eq_false o2
      have d3 : ¬ (7 : Int) < (p.2.length : Int) := by omega
      have st : forL (.tup [3, 4]) (fun env' => evSs (callF FT (n + 5)) (.ifs (.or (.cmp .le (.call 3 [(.bor 3)]) (.cst (.int 0))) (.or (.cmp .eq (.bor 4) (.tup [])) (.cmp .gt (.blt .len [(.bor 4)]) (.bin .add (.cst (.int 6)) (.cst (.int 1)))))) [.ret (.cst (.bl false))] [] :: sqB) env') ((p :: L).map pr) [some (C, false), some (M, false), some (cv s, false), z3, z4] = forL (.tup [3, 4]) (fun env' => evSs (callF FT (n + 5)) (.ifs (.or (.cmp .le (.call 3 [(.bor 3)]) (.cst (.int 0))) (.or (.cmp .eq (.bor 4) (.tup [])) (.cmp .gt (.blt .len [(.bor 4)]) (.bin .add (.cst (.int 6)) (.cst (.int 1)))))) [.ret (.cst (.bl false))] [] :: sqB) env') (L.map pr) [some (C, false), some (M, false), some (cv (addP s (sqP p)), false), some (nv p.1, false), some (cv p.2, false)] := by
        rw [List.map_cons]
        refine forL_cons (env1 := [some (C, false), some (M, false), some (cv s, false), some (nv p.1, false), some (cv p.2, false)]) bind_pr ?_
        unfold sqB
        clear ih b3 l3 o1 o2 o3 bs ls hp
        walk_at "evh"
      rw [st]
      rcases ih with ⟨y3, y4, ha, e⟩ | ⟨ha, e⟩
      · exact .inl ⟨y3, y4, fun q hq => by
          rcases List.mem_cons.mp hq with rfl | hq
          · exact ⟨o1, o2, o3⟩
          · exact ha q hq, e⟩
      · exact .inr ⟨fun z => ha fun q hq => z q (List.mem_cons_of_mem _ hq), e⟩
    · refine .inr ⟨fun z => hok (z p List.mem_cons_self), ?_⟩
      rw [List.map_cons]
      refine forL_consR (env1 := [some (C, false), some (M, false), some (cv s, false), some (nv p.1, false), some (cv p.2, false)]) bind_pr ?_
      by_cases o1 : 0 < p.1
      · rw [sgI_pos o1] at c
        by_cases o2 : p.2 = []
        · have d2 : decide (p.2 = []) = true := decide_eq_true o2
          clear hok hp bs ls o1 o2
          walk_at "evh"
        · have d2 : decide (p.2 = []) = false := decide_eq_false o2
          have o3 : (7 : Int) < (p.2.length : Int) := by
            have : ¬ p.2.length ≤ 7 := fun z => hok ⟨o1, o2, z⟩
            omega
          clear hok hp bs ls o1 o2
          walk_at "evh"
      · have c2 : sgI p.1 ≤ 0 := by
          rcases sgI_cases p.1 with ⟨z, _⟩ | ⟨_, e⟩ | ⟨_, e⟩
          · exact absurd z o1
          · omega
          · omega
        generalize sgI p.1 = g at *
        clear hok hp bs ls o1
        walk_at "evh"
theorem callF_are (h3 : FT 3 = some fd_sign) (h61 : FT 61 = some fd_are_squares) {n K : Nat} {l : List Rat} {L : List (Rat × List Rat)} (hK : K ≤ 100000) (hp : ∀ p ∈ L, PB (K + 1) p) (hj : L.length * (15 * K + 40) ≤ 10000000) :
    ∃ b : Bool, callF FT (n + 6) 61 [cv l, pl L] = .ok (.bl b, false) ∧ (b = true ↔ (∀ p ∈ L, Okp p) ∧ totP L = l) := by
  rw [callF_s h61 rfl]
  have e := sq_loop h0 h1 h4 h6 h8 h9 h11 h12 h13 h15 h16 h3 (n := n) (C := cv l) (M := pl L) hK L [] 0 none none hp .nil (by simp) (by omega)
  have it : itemsOf (pl L) = .ok (L.map pr) := rfl
  have eb : fd_are_squares.body = [.set 2 (.tup []), .for (.tup [3, 4]) (.val (.nm 1)) (.ifs (.or (.cmp .le (.call 3 [(.bor 3)]) (.cst (.int 0))) (.or (.cmp .eq (.bor 4) (.tup [])) (.cmp .gt (.blt .len [(.bor 4)]) (.bin .add (.cst (.int 6)) (.cst (.int 1)))))) [.ret (.cst (.bl false))] [] :: sqB), .ret (.cmp .eq (.bor 2) (.bor 0))] := rfl
  rw [eb, show fd_are_squares.nl = 5 from rfl]
  generalize (.ifs (.or (.cmp .le (.call 3 [(.bor 3)]) (.cst (.int 0))) (.or (.cmp .eq (.bor 4) (.tup [])) (.cmp .gt (.blt .len [(.bor 4)]) (.bin .add (.cst (.int 6)) (.cst (.int 1)))))) [.ret (.cst (.bl false))] [] :: sqB : List S) = BB at e ⊢
  rcases e with ⟨y3, y4, ha, e⟩ | ⟨ha, e⟩
  · refine ⟨decide (totP L = l), ?_, by rw [decide_eq_true_eq]; exact ⟨fun h => ⟨ha, h⟩, fun h => h.2⟩⟩
    have e' : totF [] L = totP L := rfl
    rw [e'] at e
    clear ha hp eb e'
    walk_at "evh"
  · refine ⟨false, ?_, ⟨fun z => absurd z Bool.false_ne_true, fun z => absurd z.1 ha⟩⟩
    clear ha hp eb
    walk_at "evh"
end
end G

set_option linter.all false
set_option maxHeartbeats 2000000
set_option maxRecDepth 10000
/-! F19: bound. -/
namespace G
open PySem
local macro_rules | `(tactic| walk_at "ev") => `(tactic| simp only [vl_nm, vl_bor, vl_cst, vl_bin, vl_neg, vl_cmp, vl_isn, vl_chn, vl_inn, vl_and, vl_or, vl_not, vl_ifx, vl_ix, vl_slc, vl_rev, vl_tup, vl_lst, vl_call, vl_blt, vl_isi, vl_lc, ev_nm, ev_cst, ev_bin, ev_neg, ev_cmp, ev_isn, ev_chn, ev_inn, ev_and, ev_or, ev_not, ev_ifx, ev_ix, ev_slc, ev_rev, ev_tup, ev_lst, ev_call, ev_blt, ev_isi, ev_lc, evEs_nil, evEs_cons, evAs_nil, evAs_cons, evO_none, evO_some, evC_none, evC_some, evIt_val, evIt_rng1, evIt_rng2, evIt_rvd, evT_vl, andR_t, andR_f, orR_f, orR_t, ifxR_t, ifxR_f, chnR_t, chnR_f, ss_nil', ss_cons', thn_nx, thn_ret, thn_exc, thn_bad, s_set', set_ok, set_exc, s_unp', unp_ok, s_ifs', if_t, if_f, s_for', for_ok, s_whl', s_ret', s_retn', s_pass', s_rse', s_exp', s_try', try_nx, try_ret, try_exc, s_par', s_par3', s_six', s_app', s_pop', s_popu', s_rev', rO_ok, rO_exc, ret_nm, ret_bor, ret_cst, ret_bin, ret_neg, ret_cmp, ret_isn, ret_chn, ret_inn, ret_and, ret_or, ret_not, ret_ifx, ret_ix, ret_slc, ret_rev, ret_tup, ret_lst, ret_call, ret_blt, ret_isi, ret_lc, fin_nx, fin_ret, fin_exc, b_add, b_sub, b_mul, b_fdiv, b_mod, p11, p12, p30, p42, p57, p59, b_addL, b_addT, b_mulL, c_lt, c_le, c_gt, c_ge, truth_bl, toI_int, toB_bl, items_lst, items_tup, len_lst, len_tup, len_scr, abs_int, int_int, int_bl, list_lst, list_tup, list_scr, tuple_lst, tuple_tup, max_int, min_int, ix_p0, ix_p1, c_eqI, c_neI, startE, frzE, frzI, frzAll, frz, kept, keptL, keptO, keptI, put, look, lookF, ownL_s, ownS_lst, evCall, lent, borI, bind_one, bind_tup, putAll, isLst_int, isLst_bl, isLst_str, isLst_tup, isLst_non, isLst_scr, isLst_exc, isLst_lst, isNon_int, isNon_bl, isNon_str, isNon_tup, isNon_non, isNon_scr, isNon_exc, isNon_lst, R.bind_ok, R.bind_exc, R.map_ok, R.map_exc, List.map_cons, List.map_nil, List.length_cons, List.length_nil, List.replicate, List.cons_append, List.nil_append, List.append_nil, List.getElem?_cons_zero, List.getElem?_cons_succ, List.set_cons_zero, List.set_cons_succ, Bool.false_and, Bool.true_and, Bool.and_true, Bool.and_false, Bool.or_false, Bool.false_or, Bool.or_true, Bool.true_or, Bool.not_true, Bool.not_false, decide_true, decide_false, if_true, if_false, ite_true, ite_false, reduceCtorEq, reduceIte, Nat.reduceAdd, Nat.reduceSub, Nat.reduceMul, Nat.reduceEqDiff, Int.reduceEq, Int.reduceLT, Int.reduceLE, Int.reduceNe, Int.reduceNeg, Int.reduceAdd, Int.reduceMul, Int.reduceSub, Nat.reduceLT, Nat.reduceLeDiff, Int.reduceGT, Int.reduceGE, is_tup_tuple, is_tup_list, is_tup_int, is_tup_bool, is_tup_str, is_lst_tuple, is_lst_list, is_lst_int, is_lst_bool, is_lst_str, is_int_tuple, is_int_list, is_int_int, is_int_bool, is_int_str, is_bl_tuple, is_bl_list, is_bl_int, is_bl_bool, is_bl_str, is_str_tuple, is_str_list, is_str_int, is_str_bool, is_str_str, is_non_tuple, is_non_list, is_non_int, is_non_bool, is_non_str, forS_ok, forB_nx, forB_ret, forL_nil, lc_nil, Int.cast_ofNat_Int, lc_cons, vlE_d, lenOk0, lenOk1, lenOk2, lenOk3, wipe1, wipe2, R.noexc_ok, decide_eq_true_eq, eq_self, ix_nv0, ix_nv1, is_nv_tuple, is_cv_tuple, is_lv_list, is_lv_tuple, is_cv_list, isLst_nv, isLst_cv, isLst_lv, isNon_nv, isNon_cv, isNon_lv, bind_nv, items_cv, items_lv, len_cv, len_lv, list_cv, list_lv, tuple_cv, tuple_lv, c_eqN, c_neN, c_eqC, c_neC, c_eqL, c_neL, nv01, nv11, cv_nil, cv_one, rev_lv, rev_cv, lv_one, lv_map, cv_map, lenOk_map, List.length_map, ownS_lv, back_bl, back_int, back_nv, back_cv, back_lv, c_eqB, c_neB])
local macro_rules | `(tactic| walk_at "evh") => `(tactic| simp only [vl_nm, vl_bor, vl_cst, vl_bin, vl_neg, vl_cmp, vl_isn, vl_chn, vl_inn, vl_and, vl_or, vl_not, vl_ifx, vl_ix, vl_slc, vl_rev, vl_tup, vl_lst, vl_call, vl_blt, vl_isi, vl_lc, ev_nm, ev_cst, ev_bin, ev_neg, ev_cmp, ev_isn, ev_chn, ev_inn, ev_and, ev_or, ev_not, ev_ifx, ev_ix, ev_slc, ev_rev, ev_tup, ev_lst, ev_call, ev_blt, ev_isi, ev_lc, evEs_nil, evEs_cons, evAs_nil, evAs_cons, evO_none, evO_some, evC_none, evC_some, evIt_val, evIt_rng1, evIt_rng2, evIt_rvd, evT_vl, andR_t, andR_f, orR_f, orR_t, ifxR_t, ifxR_f, chnR_t, chnR_f, ss_nil', ss_cons', thn_nx, thn_ret, thn_exc, thn_bad, s_set', set_ok, set_exc, s_unp', unp_ok, s_ifs', if_t, if_f, s_for', for_ok, s_whl', s_ret', s_retn', s_pass', s_rse', s_exp', s_try', try_nx, try_ret, try_exc, s_par', s_par3', s_six', s_app', s_pop', s_popu', s_rev', rO_ok, rO_exc, ret_nm, ret_bor, ret_cst, ret_bin, ret_neg, ret_cmp, ret_isn, ret_chn, ret_inn, ret_and, ret_or, ret_not, ret_ifx, ret_ix, ret_slc, ret_rev, ret_tup, ret_lst, ret_call, ret_blt, ret_isi, ret_lc, fin_nx, fin_ret, fin_exc, b_add, b_sub, b_mul, b_fdiv, b_mod, p11, p12, p30, p42, p57, p59, b_addL, b_addT, b_mulL, c_lt, c_le, c_gt, c_ge, truth_bl, toI_int, toB_bl, items_lst, items_tup, len_lst, len_tup, len_scr, abs_int, int_int, int_bl, list_lst, list_tup, list_scr, tuple_lst, tuple_tup, max_int, min_int, ix_p0, ix_p1, c_eqI, c_neI, startE, frzE, frzI, frzAll, frz, kept, keptL, keptO, keptI, put, look, lookF, ownL_s, ownS_lst, evCall, lent, borI, bind_one, bind_tup, putAll, isLst_int, isLst_bl, isLst_str, isLst_tup, isLst_non, isLst_scr, isLst_exc, isLst_lst, isNon_int, isNon_bl, isNon_str, isNon_tup, isNon_non, isNon_scr, isNon_exc, isNon_lst, R.bind_ok, R.bind_exc, R.map_ok, R.map_exc, List.map_cons, List.map_nil, List.length_cons, List.length_nil, List.replicate, List.cons_append, List.nil_append, List.append_nil, List.getElem?_cons_zero, List.getElem?_cons_succ, List.set_cons_zero, List.set_cons_succ, Bool.false_and, Bool.true_and, Bool.and_true, Bool.and_false, Bool.or_false, Bool.false_or, Bool.or_true, Bool.true_or, Bool.not_true, Bool.not_false, decide_true, decide_false, if_true, if_false, ite_true, ite_false, reduceCtorEq, reduceIte, Nat.reduceAdd, Nat.reduceSub, Nat.reduceMul, Nat.reduceEqDiff, Int.reduceEq, Int.reduceLT, Int.reduceLE, Int.reduceNe, Int.reduceNeg, Int.reduceAdd, Int.reduceMul, Int.reduceSub, Nat.reduceLT, Nat.reduceLeDiff, Int.reduceGT, Int.reduceGE, is_tup_tuple, is_tup_list, is_tup_int, is_tup_bool, is_tup_str, is_lst_tuple, is_lst_list, is_lst_int, is_lst_bool, is_lst_str, is_int_tuple, is_int_list, is_int_int, is_int_bool, is_int_str, is_bl_tuple, is_bl_list, is_bl_int, is_bl_bool, is_bl_str, is_str_tuple, is_str_list, is_str_int, is_str_bool, is_str_str, is_non_tuple, is_non_list, is_non_int, is_non_bool, is_non_str, forS_ok, forB_nx, forB_ret, forL_nil, lc_nil, Int.cast_ofNat_Int, lc_cons, vlE_d, lenOk0, lenOk1, lenOk2, lenOk3, wipe1, wipe2, R.noexc_ok, decide_eq_true_eq, eq_self, ix_nv0, ix_nv1, is_nv_tuple, is_cv_tuple, is_lv_list, is_lv_tuple, is_cv_list, isLst_nv, isLst_cv, isLst_lv, isNon_nv, isNon_cv, isNon_lv, bind_nv, items_cv, items_lv, len_cv, len_lv, list_cv, list_lv, tuple_cv, tuple_lv, c_eqN, c_neN, c_eqC, c_neC, c_eqL, c_neL, nv01, nv11, cv_nil, cv_one, rev_lv, rev_cv, lv_one, lv_map, cv_map, lenOk_map, List.length_map, ownS_lv, back_bl, back_int, back_nv, back_cv, back_lv, c_eqB, c_neB, *])
def fd_without_sign : FD := ⟨1, 1, [.ifs (.cmp .lt (.call 3 [(.bor 0)]) (.cst (.int 0))) [.ret (.call 5 [(.cst (.tup [(.int 0), (.int 1)])), (.nm 0)])] [], .ret (.nm 0)]⟩
def fd_bound : FD := ⟨1, 4, [.ifs (.cmp .eq (.bor 0) (.tup [])) [.rse 2] [], .set 1 (.cst (.tup [(.int 0), (.int 1)])), .for (.one 2) (.val (.slc (.bor 0) none (some (.neg (.cst (.int 1)))))) [.set 3 (.call 59 [(.call 7 [(.nm 2), (.ix (.bor 0) (.neg (.cst (.int 1))))])]), .ifs (.call 2 [(.bor 1), (.bor 3)]) [.set 1 (.nm 3)] []], .ret (.call 4 [(.cst (.tup [(.int 1), (.int 1)])), (.nm 1)])]⟩
theorem cut_dl {α : Type} {xs : List α} : cut xs none (some (-1)) = xs.dropLast := by
  unfold cut
  have e2 : HT.sIx xs.length xs.length (some (-1)) = xs.length - 1 := by
    show (if (-1 : Int) < 0 then ((-1 : Int) + (xs.length : Int)).toNat else min (-1 : Int).toNat xs.length) = _
    rw [if_pos (by decide)]; omega
  rw [e2, show HT.sIx xs.length 0 none = 0 from rfl, List.drop_zero, Nat.sub_zero, List.dropLast_eq_take]
theorem slc_dl {l : List Rat} : evSlc none (some (-1)) (cv l) = .ok (cv l.dropLast) := by
  show R.ok (Val.tup (cut (l.map nv) none (some (-1)))) = _
  rw [cut_dl, ← List.map_dropLast]; rfl
section
variable {FT : Nat → Option FD}
theorem callF_number4 (h0 : FT 0 = some fd_divisor_of) (h1 : FT 1 = some fd_number) (h168 : FT 168 = some fd_law_drawn4) (h129 : FT 129 = some fd_law_number4) {n : Nat} {ns : List Int} {k : Int} (k0 : 0 ≤ k) (k1 : k < 9000) : ∃ q, callF FT (n + 3) 129 [.scr ns, .int k] = .ok (nv q, false) ∧ Bd 11 q := by
  rw [callF_s h129 rfl]
  have c1 : callF FT (n + 2) 168 [.scr ns, .int k, .int 13] = _ := callF_drawn4 h168 (n := n + 1) (ns := ns) (k := k) (s := 13) k0 (by omega) (by decide)
  have c2 : callF FT (n + 2) 168 [.scr ns, .int (k + 2), .int 16] = _ := callF_drawn4 h168 (n := n + 1) (ns := ns) (k := k + 2) (s := 16) (by omega) (by omega) (by decide)
  have c3 : callF FT (n + 2) 168 [.scr ns, .int k, .int 1999] = _ := callF_drawn4 h168 (n := n + 1) (ns := ns) (k := k) (s := 1999) k0 (by omega) (by decide)
  have c4 : callF FT (n + 2) 168 [.scr ns, .int (k + 1), .int 8] = _ := callF_drawn4 h168 (n := n + 1) (ns := ns) (k := k + 1) (s := 8) (by omega) (by omega) (by decide)
  have b1 := d4_bd ns k (s := 13) (by decide)
  have b3 := d4_bd ns k (s := 1999) (by decide)
  have b4 := d4_bd ns (k + 1) (s := 8) (by decide)
  obtain ⟨x, ix, hx⟩ : ∃ x : Int, evIx (.lst [.int 1, .int 1, .int 2, .int 3, .int 4, .int 6, .int 1, .int 25]) (.int (d4 ns (k + 1) 8)) = .ok (.int x) ∧ 1 ≤ x ∧ x ≤ 25 := by
    obtain ⟨y, e, x, rfl, h⟩ := ix_pick (xs := [Val.int 1, .int 1, .int 2, .int 3, .int 4, .int 6, .int 1, .int 25]) (p := fun y => ∃ x : Int, y = .int x ∧ 1 ≤ x ∧ x ≤ 25) b4.1 b4.2 (by
      intro y hy
      simp only [List.mem_cons, List.not_mem_nil, or_false] at hy
      rcases hy with rfl | rfl | rfl | rfl | rfl | rfl | rfl | rfl <;> exact ⟨_, rfl, by decide, by decide⟩)
    exact ⟨x, e, h⟩
  generalize d4 ns k 13 = u at *
  generalize d4 ns k 1999 = v at *
  generalize d4 ns (k + 1) 8 = w at *
  generalize d4 ns (k + 2) 16 = z at *
  unfold fd_law_number4
  by_cases h : z = 5
  · have c := callF_number h0 h1 (n := n) (t := v - 999) (b := x) (by omega)
    have bd : Bd 11 (Rat.divInt (v - 999) x) := .divInt (by decide) (by show _ < 2048; omega) (by show _ < 2048; omega)
    generalize Rat.divInt (v - 999) x = q at *
    refine ⟨q, ?_, bd⟩
    clear bd b1 b3 b4 hx k0 k1
    walk_at "evh"
  · have c := callF_number h0 h1 (n := n) (t := u - 6) (b := x) (by omega)
    have bd : Bd 11 (Rat.divInt (u - 6) x) := .divInt (by decide) (by show _ < 2048; omega) (by show _ < 2048; omega)
    generalize Rat.divInt (u - 6) x = q at *
    refine ⟨q, ?_, bd⟩
    clear bd b1 b3 b4 hx k0 k1
    walk_at "evh"
variable (h0 : FT 0 = some fd_divisor_of) (h1 : FT 1 = some fd_number)
include h0 h1
theorem callF_without_sign (h3 : FT 3 = some fd_sign) (h5 : FT 5 = some fd_minus) (h59 : FT 59 = some fd_without_sign) {n K : Nat} {q : Rat} (bq : Bd K q) (hK : K ≤ 100000000) : callF FT (n + 4) 59 [nv q] = .ok (nv (absR q), false) := by
  rw [callF_s h59 rfl]
  have c : callF FT (n + 3) 3 [nv q] = .ok (.int (sgI q), false) := callF_sign h3 (n := n + 2) (p := q)
  have b0 : Bd 1 (0 : Rat) := ⟨by decide, by decide⟩
  have c2 := callF_minus h0 h1 h5 (n := n) b0 bq (by omega)
  unfold fd_without_sign absR
  rcases sgI_cases q with ⟨hq, e⟩ | ⟨hq, e⟩ | ⟨hq, e⟩
  · rw [e] at c
    rw [if_neg (Rat.not_lt.mpr (Rat.le_of_lt hq))]
    clear bq hq b0 c2
    walk_at "evh"
  · rw [e] at c
    rw [if_pos hq]
    clear bq hq b0
    walk_at "evh"
  · rw [e] at c
    subst hq
    rw [if_neg (by decide)]
    clear bq b0 c2
    walk_at "evh"
theorem Bd.absR {K : Nat} {q : Rat} (h : Bd K q) : Bd K (absR q) := by
  unfold G.absR
  split
  · rw [show (0 : Rat) - q = -q by grind]; exact h.neg
  · exact h
def bdB : List S := [.set 3 (.call 59 [(.call 7 [(.nm 2), (.ix (.bor 0) (.neg (.cst (.int 1))))])]), .ifs (.call 2 [(.bor 1), (.bor 3)]) [.set 1 (.nm 3)] []]
theorem bd_loop (h2 : FT 2 = some fd_less) (h3 : FT 3 = some fd_sign) (h5 : FT 5 = some fd_minus) (h7 : FT 7 = some fd_over) (h59 : FT 59 = some fd_without_sign) {n K : Nat} {l : List Rat} (hl : l ≠ []) (hc : ld l ≠ 0) (bl : BL (K + 1) l) (hK : K ≤ 10000000) : ∀ (ps : List Rat) (g : Rat) (z2 z3 : Option (Val × Bool)), BL (K + 1) ps → Bd (2 * K + 2) g →
    ∃ y2 y3, forL (.one 2) (fun env' => evSs (callF FT (n + 4)) bdB env') (ps.map nv) [some (cv l, false), some (nv g, false), z2, z3] = .nx [some (cv l, false), some (nv (grt (ld l) ps g), false), y2, y3] ∧ Bd (2 * K + 2) (grt (ld l) ps g)
  | [], g, z2, z3, _, bg => ⟨_, _, rfl, bg⟩
  | a :: ps, g, z2, z3, bp, bg => by
    have ba := bp a List.mem_cons_self
    have bc := Bd.ld bl
    have bq := ba.div bc
    have c1 : callF FT (n + 4) 7 [nv a, nv (ld l)] = _ := callF_over h0 h1 h7 (n := n + 1) hc ba bc (by omega)
    have c2 := callF_without_sign h0 h1 h3 h5 h59 (n := n) bq (by omega)
    have bx : Bd (2 * K + 2) (G.absR (a / ld l)) := (Bd.absR h0 h1 bq).mono (by omega)
    have c3 : callF FT (n + 4) 2 [nv g, nv (G.absR (a / ld l))] = _ := callF_less h2 (n := n + 3) bg bx (by omega)
    have ix := ix_ld hl
    have e : grt (ld l) (a :: ps) g = grt (ld l) ps (if g < G.absR (a / ld l) then G.absR (a / ld l) else g) := rfl
    obtain ⟨y2, y3, ih, bd⟩ := bd_loop h2 h3 h5 h7 h59 (n := n) hl hc bl hK ps (if g < G.absR (a / ld l) then G.absR (a / ld l) else g) (some (nv a, false)) (some (nv (G.absR (a / ld l)), false)) (fun q hq => bp q (List.mem_cons_of_mem _ hq)) (by split; exact bx; exact bg)
    refine ⟨y2, y3, ?_, by rw [e]; exact bd⟩
    rw [e, ← ih, List.map_cons]
    refine forL_cons (env1 := [some (cv l, false), some (nv g, false), some (nv a, false), z3]) rfl ?_
    unfold bdB
    clear ih bd bx bg bq bc ba bp bl e
    generalize G.absR (a / ld l) = x at *
    generalize a / ld l = y at *
    generalize ld l = z at *
    by_cases h : g < x
    · rw [decide_eq_true h] at c3
      rw [if_pos h]
      clear h
      walk_at "evh"
    · rw [decide_eq_false h] at c3
      rw [if_neg h]
      clear h
      walk_at "evh"
theorem callF_bound (h2 : FT 2 = some fd_less) (h3 : FT 3 = some fd_sign) (h4 : FT 4 = some fd_plus) (h5 : FT 5 = some fd_minus) (h7 : FT 7 = some fd_over) (h59 : FT 59 = some fd_without_sign) (h60 : FT 60 = some fd_bound) {n K : Nat} {l : List Rat} (hl : l ≠ []) (hc : ld l ≠ 0) (bl : BL (K + 1) l) (hK : K ≤ 10000000) :
    callF FT (n + 5) 60 [cv l] = .ok (nv (farP l), false) ∧ Bd (2 * K + 4) (farP l) := by
  obtain ⟨y2, y3, e, bd⟩ := bd_loop h0 h1 h2 h3 h5 h7 h59 (n := n) hl hc bl hK l.dropLast 0 none none (fun q hq => bl q (List.dropLast_subset l hq)) Bd0
  have b1 : Bd 1 (1 : Rat) := ⟨by decide, by decide⟩
  have c : callF FT (n + 4) 4 [nv 1, nv (grt (ld l) l.dropLast 0)] = _ := callF_plus h0 h1 h4 (n := n + 1) b1 bd (by omega)
  refine ⟨?_, (b1.add bd).mono (by omega)⟩
  rw [callF_s h60 rfl]
  have d : decide (l = []) = false := decide_eq_false hl
  have s := slc_dl (l := l)
  have eb : fd_bound.body = [.ifs (.cmp .eq (.bor 0) (.tup [])) [.rse 2] [], .set 1 (.cst (.tup [(.int 0), (.int 1)])), .for (.one 2) (.val (.slc (.bor 0) none (some (.neg (.cst (.int 1)))))) bdB, .ret (.call 4 [(.cst (.tup [(.int 1), (.int 1)])), (.nm 1)])] := rfl
  rw [eb, show fd_bound.nl = 4 from rfl]
  unfold farP
  clear eb bd b1 bl hc hl
  generalize grt (ld l) l.dropLast 0 = g at *
  walk_at "evh"
end
end G

set_option linter.all false
set_option maxHeartbeats 2000000
set_option maxRecDepth 10000
/-! F20: the rows' laws: what they reckon with. -/
namespace G
open PySem
local macro_rules | `(tactic| walk_at "ev") => `(tactic| simp only [vl_nm, vl_bor, vl_cst, vl_bin, vl_neg, vl_cmp, vl_isn, vl_chn, vl_inn, vl_and, vl_or, vl_not, vl_ifx, vl_ix, vl_slc, vl_rev, vl_tup, vl_lst, vl_call, vl_blt, vl_isi, vl_lc, ev_nm, ev_cst, ev_bin, ev_neg, ev_cmp, ev_isn, ev_chn, ev_inn, ev_and, ev_or, ev_not, ev_ifx, ev_ix, ev_slc, ev_rev, ev_tup, ev_lst, ev_call, ev_blt, ev_isi, ev_lc, evEs_nil, evEs_cons, evAs_nil, evAs_cons, evO_none, evO_some, evC_none, evC_some, evIt_val, evIt_rng1, evIt_rng2, evIt_rvd, evT_vl, andR_t, andR_f, orR_f, orR_t, ifxR_t, ifxR_f, chnR_t, chnR_f, ss_nil', ss_cons', thn_nx, thn_ret, thn_exc, thn_bad, s_set', set_ok, set_exc, s_unp', unp_ok, s_ifs', if_t, if_f, s_for', for_ok, s_whl', s_ret', s_retn', s_pass', s_rse', s_exp', s_try', try_nx, try_ret, try_exc, s_par', s_par3', s_six', s_app', s_pop', s_popu', s_rev', rO_ok, rO_exc, ret_nm, ret_bor, ret_cst, ret_bin, ret_neg, ret_cmp, ret_isn, ret_chn, ret_inn, ret_and, ret_or, ret_not, ret_ifx, ret_ix, ret_slc, ret_rev, ret_tup, ret_lst, ret_call, ret_blt, ret_isi, ret_lc, fin_nx, fin_ret, fin_exc, b_add, b_sub, b_mul, b_fdiv, b_mod, p11, p12, p30, p42, p57, p59, b_addL, b_addT, b_mulL, c_lt, c_le, c_gt, c_ge, truth_bl, toI_int, toB_bl, items_lst, items_tup, len_lst, len_tup, len_scr, abs_int, int_int, int_bl, list_lst, list_tup, list_scr, tuple_lst, tuple_tup, max_int, min_int, ix_p0, ix_p1, c_eqI, c_neI, startE, frzE, frzI, frzAll, frz, kept, keptL, keptO, keptI, put, look, lookF, ownL_s, ownS_lst, evCall, lent, borI, bind_one, bind_tup, putAll, isLst_int, isLst_bl, isLst_str, isLst_tup, isLst_non, isLst_scr, isLst_exc, isLst_lst, isNon_int, isNon_bl, isNon_str, isNon_tup, isNon_non, isNon_scr, isNon_exc, isNon_lst, R.bind_ok, R.bind_exc, R.map_ok, R.map_exc, List.map_cons, List.map_nil, List.length_cons, List.length_nil, List.replicate, List.cons_append, List.nil_append, List.append_nil, List.getElem?_cons_zero, List.getElem?_cons_succ, List.set_cons_zero, List.set_cons_succ, Bool.false_and, Bool.true_and, Bool.and_true, Bool.and_false, Bool.or_false, Bool.false_or, Bool.or_true, Bool.true_or, Bool.not_true, Bool.not_false, decide_true, decide_false, if_true, if_false, ite_true, ite_false, reduceCtorEq, reduceIte, Nat.reduceAdd, Nat.reduceSub, Nat.reduceMul, Nat.reduceEqDiff, Int.reduceEq, Int.reduceLT, Int.reduceLE, Int.reduceNe, Int.reduceNeg, Int.reduceAdd, Int.reduceMul, Int.reduceSub, Nat.reduceLT, Nat.reduceLeDiff, Int.reduceGT, Int.reduceGE, is_tup_tuple, is_tup_list, is_tup_int, is_tup_bool, is_tup_str, is_lst_tuple, is_lst_list, is_lst_int, is_lst_bool, is_lst_str, is_int_tuple, is_int_list, is_int_int, is_int_bool, is_int_str, is_bl_tuple, is_bl_list, is_bl_int, is_bl_bool, is_bl_str, is_str_tuple, is_str_list, is_str_int, is_str_bool, is_str_str, is_non_tuple, is_non_list, is_non_int, is_non_bool, is_non_str, forS_ok, forB_nx, forB_ret, forL_nil, lc_nil, Int.cast_ofNat_Int, lc_cons, vlE_d, lenOk0, lenOk1, lenOk2, lenOk3, wipe1, wipe2, R.noexc_ok, decide_eq_true_eq, eq_self, ix_nv0, ix_nv1, is_nv_tuple, is_cv_tuple, is_lv_list, is_lv_tuple, is_cv_list, isLst_nv, isLst_cv, isLst_lv, isNon_nv, isNon_cv, isNon_lv, bind_nv, items_cv, items_lv, len_cv, len_lv, list_cv, list_lv, tuple_cv, tuple_lv, c_eqN, c_neN, c_eqC, c_neC, c_eqL, c_neL, nv01, nv11, cv_nil, cv_one, rev_lv, rev_cv, lv_one, lv_map, cv_map, lenOk_map, List.length_map, ownS_lv, back_bl, back_int, back_nv, back_cv, back_lv, c_eqB, c_neB])
local macro_rules | `(tactic| walk_at "evh") => `(tactic| simp only [vl_nm, vl_bor, vl_cst, vl_bin, vl_neg, vl_cmp, vl_isn, vl_chn, vl_inn, vl_and, vl_or, vl_not, vl_ifx, vl_ix, vl_slc, vl_rev, vl_tup, vl_lst, vl_call, vl_blt, vl_isi, vl_lc, ev_nm, ev_cst, ev_bin, ev_neg, ev_cmp, ev_isn, ev_chn, ev_inn, ev_and, ev_or, ev_not, ev_ifx, ev_ix, ev_slc, ev_rev, ev_tup, ev_lst, ev_call, ev_blt, ev_isi, ev_lc, evEs_nil, evEs_cons, evAs_nil, evAs_cons, evO_none, evO_some, evC_none, evC_some, evIt_val, evIt_rng1, evIt_rng2, evIt_rvd, evT_vl, andR_t, andR_f, orR_f, orR_t, ifxR_t, ifxR_f, chnR_t, chnR_f, ss_nil', ss_cons', thn_nx, thn_ret, thn_exc, thn_bad, s_set', set_ok, set_exc, s_unp', unp_ok, s_ifs', if_t, if_f, s_for', for_ok, s_whl', s_ret', s_retn', s_pass', s_rse', s_exp', s_try', try_nx, try_ret, try_exc, s_par', s_par3', s_six', s_app', s_pop', s_popu', s_rev', rO_ok, rO_exc, ret_nm, ret_bor, ret_cst, ret_bin, ret_neg, ret_cmp, ret_isn, ret_chn, ret_inn, ret_and, ret_or, ret_not, ret_ifx, ret_ix, ret_slc, ret_rev, ret_tup, ret_lst, ret_call, ret_blt, ret_isi, ret_lc, fin_nx, fin_ret, fin_exc, b_add, b_sub, b_mul, b_fdiv, b_mod, p11, p12, p30, p42, p57, p59, b_addL, b_addT, b_mulL, c_lt, c_le, c_gt, c_ge, truth_bl, toI_int, toB_bl, items_lst, items_tup, len_lst, len_tup, len_scr, abs_int, int_int, int_bl, list_lst, list_tup, list_scr, tuple_lst, tuple_tup, max_int, min_int, ix_p0, ix_p1, c_eqI, c_neI, startE, frzE, frzI, frzAll, frz, kept, keptL, keptO, keptI, put, look, lookF, ownL_s, ownS_lst, evCall, lent, borI, bind_one, bind_tup, putAll, isLst_int, isLst_bl, isLst_str, isLst_tup, isLst_non, isLst_scr, isLst_exc, isLst_lst, isNon_int, isNon_bl, isNon_str, isNon_tup, isNon_non, isNon_scr, isNon_exc, isNon_lst, R.bind_ok, R.bind_exc, R.map_ok, R.map_exc, List.map_cons, List.map_nil, List.length_cons, List.length_nil, List.replicate, List.cons_append, List.nil_append, List.append_nil, List.getElem?_cons_zero, List.getElem?_cons_succ, List.set_cons_zero, List.set_cons_succ, Bool.false_and, Bool.true_and, Bool.and_true, Bool.and_false, Bool.or_false, Bool.false_or, Bool.or_true, Bool.true_or, Bool.not_true, Bool.not_false, decide_true, decide_false, if_true, if_false, ite_true, ite_false, reduceCtorEq, reduceIte, Nat.reduceAdd, Nat.reduceSub, Nat.reduceMul, Nat.reduceEqDiff, Int.reduceEq, Int.reduceLT, Int.reduceLE, Int.reduceNe, Int.reduceNeg, Int.reduceAdd, Int.reduceMul, Int.reduceSub, Nat.reduceLT, Nat.reduceLeDiff, Int.reduceGT, Int.reduceGE, is_tup_tuple, is_tup_list, is_tup_int, is_tup_bool, is_tup_str, is_lst_tuple, is_lst_list, is_lst_int, is_lst_bool, is_lst_str, is_int_tuple, is_int_list, is_int_int, is_int_bool, is_int_str, is_bl_tuple, is_bl_list, is_bl_int, is_bl_bool, is_bl_str, is_str_tuple, is_str_list, is_str_int, is_str_bool, is_str_str, is_non_tuple, is_non_list, is_non_int, is_non_bool, is_non_str, forS_ok, forB_nx, forB_ret, forL_nil, lc_nil, Int.cast_ofNat_Int, lc_cons, vlE_d, lenOk0, lenOk1, lenOk2, lenOk3, wipe1, wipe2, R.noexc_ok, decide_eq_true_eq, eq_self, ix_nv0, ix_nv1, is_nv_tuple, is_cv_tuple, is_lv_list, is_lv_tuple, is_cv_list, isLst_nv, isLst_cv, isLst_lv, isNon_nv, isNon_cv, isNon_lv, bind_nv, items_cv, items_lv, len_cv, len_lv, list_cv, list_lv, tuple_cv, tuple_lv, c_eqN, c_neN, c_eqC, c_neC, c_eqL, c_neL, nv01, nv11, cv_nil, cv_one, rev_lv, rev_cv, lv_one, lv_map, cv_map, lenOk_map, List.length_map, ownS_lv, back_bl, back_int, back_nv, back_cv, back_lv, c_eqB, c_neB, *])
def fd_law_cell_at5 : FD := ⟨2, 2, [.ifs (.cmp .lt (.bor 1) (.blt .len [(.bor 0)])) [.ret (.ix (.bor 0) (.bor 1))] [], .ifs (.cmp .eq (.blt .len [(.bor 0)]) (.cst (.int 0))) [.ret (.bin .add (.bin .mul (.bin .mul (.bor 1) (.bor 1)) (.cst (.int 48271))) (.bin .mul (.cst (.int 7)) (.bor 1)))] [], .ret (.bin .add (.bin .fdiv (.ix (.bor 0) (.bin .mod (.bor 1) (.blt .len [(.bor 0)]))) (.bin .add (.cst (.int 1)) (.bin .fdiv (.bor 1) (.blt .len [(.bor 0)])))) (.bin .mul (.bin .mul (.bor 1) (.bor 1)) (.cst (.int 7919))))]⟩
def fd_law_num5 : FD := ⟨2, 4, [.par 2 3 (.blt .abs [(.bor 0)]) (.blt .abs [(.bor 1)]), .whl (.cmp .ne (.bor 3) (.cst (.int 0))) [.par 2 3 (.nm 3) (.bin .mod (.bor 2) (.bor 3))], .ifs (.cmp .lt (.bor 1) (.cst (.int 0))) [.set 2 (.bin .sub (.cst (.int 0)) (.bor 2))] [], .ret (.tup [(.bin .fdiv (.bor 0) (.bor 2)), (.bin .fdiv (.bor 1) (.bor 2))])]⟩
def fd_law_plus5 : FD := ⟨2, 2, [.ret (.call 211 [(.bin .add (.bin .mul (.ix (.bor 0) (.cst (.int 0))) (.ix (.bor 1) (.cst (.int 1)))) (.bin .mul (.ix (.bor 1) (.cst (.int 0))) (.ix (.bor 0) (.cst (.int 1))))), (.bin .mul (.ix (.bor 0) (.cst (.int 1))) (.ix (.bor 1) (.cst (.int 1))))])]⟩
def fd_law_times5 : FD := ⟨2, 2, [.ret (.call 211 [(.bin .mul (.ix (.bor 0) (.cst (.int 0))) (.ix (.bor 1) (.cst (.int 0)))), (.bin .mul (.ix (.bor 0) (.cst (.int 1))) (.ix (.bor 1) (.cst (.int 1))))])]⟩
def fd_law_clean5 : FD := ⟨1, 2, [.set 1 (.blt .list [(.bor 0)]), .whl (.and (.cmp .ne (.bor 1) (.lst [])) (.cmp .eq (.ix (.ix (.bor 1) (.neg (.cst (.int 1)))) (.cst (.int 0))) (.cst (.int 0)))) [.pop 1], .ret (.blt .tuple [(.bor 1)])]⟩
def fd_law_sum5 : FD := ⟨2, 6, [.set 2 (.blt .max2 [(.blt .len [(.bor 0)]), (.blt .len [(.bor 1)])]), .set 3 (.lc (.one 4) (.val (.lst [(.nm 0), (.nm 1)])) none (.bin .add (.blt .list [(.bor 4)]) (.bin .mul (.lst [(.tup [(.cst (.int 0)), (.cst (.int 1))])]) (.bin .sub (.bor 2) (.blt .len [(.bor 4)]))))), .ret (.call 213 [(.lc (.one 5) (.rng1 (.bor 2)) none (.call 156 [(.ix (.ix (.bor 3) (.cst (.int 0))) (.bor 5)), (.ix (.ix (.bor 3) (.cst (.int 1))) (.bor 5))]))])]⟩
def fd_law_product5 : FD := ⟨2, 5, [.set 2 (.bin .mul (.lst [(.tup [(.cst (.int 0)), (.cst (.int 1))])]) (.blt .max2 [(.cst (.int 0)), (.bin .sub (.bin .add (.blt .len [(.bor 0)]) (.blt .len [(.bor 1)])) (.cst (.int 1)))])), .for (.one 3) (.rng1 (.blt .len [(.bor 0)])) [.for (.one 4) (.rng1 (.blt .len [(.bor 1)])) [.six 2 (.bin .add (.bor 3) (.bor 4)) (.call 156 [(.ix (.bor 2) (.bin .add (.bor 3) (.bor 4))), (.call 145 [(.ix (.bor 0) (.bor 3)), (.ix (.bor 1) (.bor 4))])])]], .ret (.call 213 [(.nm 2)])]⟩
section
variable {FT : Nat → Option FD}
/-- a cell of the script, whatever it holds -/
theorem callF_cell5 (h : FT 210 = some fd_law_cell_at5) {n : Nat} {ns : List Int} {k : Int} (k0 : 0 ≤ k) (k1 : k < 10000) : ∃ c : Int, callF FT (n + 1) 210 [.scr ns, .int k] = .ok (.int c, false) := by
  rw [callF_s h rfl]
  have kk : k.natAbs < 2 ^ 14 := natAbs_lt_pow (by omega) (by omega)
  have m1 : mulOk k k = true := mul_small kk kk (by decide)
  have m2 : mulOk (k * k) 48271 = true := mul_small (mul_sz kk kk) (n := 16) (by decide) (by decide)
  have m3 : mulOk 7 k = true := mul_small (m := 3) (by decide) kk (by decide)
  have m4 : mulOk (k * k) 7919 = true := mul_small (mul_sz kk kk) (n := 16) (by decide) (by decide)
  by_cases h1 : k < ns.length
  · obtain ⟨z, hz, _⟩ := atI_ex (xs := ns) k0 h1
    have ix : evIx (.scr ns) (.int k) = .ok (.int z) := by
      show ofO ((L2.atI ns k).map Val.int) = _
      rw [hz]; rfl
    refine ⟨z, ?_⟩
    unfold fd_law_cell_at5
    clear hz kk
    walk_at "evh"
  · by_cases h2 : (ns.length : Int) = 0
    · refine ⟨k * k * 48271 + 7 * k, ?_⟩
      unfold fd_law_cell_at5
      rw [h2] at h1
      clear kk
      walk_at "evh"
    · have b := fmod_bd k (b := (ns.length : Int)) (by omega)
      obtain ⟨z, hz, _⟩ := atI_ex (xs := ns) b.1 b.2
      have ix : evIx (.scr ns) (.int (k.fmod ns.length)) = .ok (.int z) := by
        show ofO ((L2.atI ns (k.fmod ns.length)).map Val.int) = _
        rw [hz]; rfl
      have hd : ¬ 1 + k.fdiv ns.length = 0 := by
        have := Int.fdiv_nonneg k0 (show (0 : Int) ≤ ns.length by omega)
        omega
      refine ⟨z.fdiv (1 + k.fdiv ns.length) + k * k * 7919, ?_⟩
      unfold fd_law_cell_at5
      clear hz kk b
      walk_at "evh"
theorem num5_loop {cl : Nat → List Val → R (Val × Bool)} {x0 x1 : Option (Val × Bool)} : ∀ (n : Nat) (a b : Int), 0 ≤ a → 0 ≤ b → b.toNat ≤ n → whlO cl (.cmp .ne (.bor 3) (.cst (.int 0))) [.par 2 3 (.nm 3) (.bin .mod (.bor 2) (.bor 3))] [x0, x1, some (.int a, false), some (.int b, false)] = .nx [x0, x1, some (.int (Int.gcd a b), false), some (.int 0, false)] := fun n a b ha hb hn => by
  by_cases h : b = 0
  · subst h
    have e : (Int.gcd a 0 : Int) = a := by simp; omega
    rw [e]
    exact whlO_f (by walk_at "ev")
  · rw [whlO_t (env' := [x0, x1, some (.int b, false), some (.int (a.fmod b), false)]) (by walk_at "evh") (by walk_at "evh")]
    have h1 := Int.fmod_lt_of_pos a (show 0 < b by omega)
    have h2 := Int.fmod_nonneg_of_pos a (show 0 < b by omega)
    cases n with
    | zero => omega
    | succ n => rw [num5_loop n b (a.fmod b) hb h2 (by omega), gcd_fmod]
theorem callF_num5 (h : FT 211 = some fd_law_num5) {n : Nat} {t b : Int} (hb : 0 < b) : callF FT (n + 1) 211 [.int t, .int b] = .ok (nv (Rat.divInt t b), false) := by
  rw [callF_s h rfl]
  have e := num5_loop (cl := callF FT n) (x0 := some (.int t, false)) (x1 := some (.int b, false)) b.toNat (if t < 0 then -t else t) (if b < 0 then -b else b) (by split <;> omega) (by split <;> omega) (by split <;> omega)
  rw [if_neg (show ¬ b < 0 by omega), gcd_abs_left] at e
  have h1 : ¬ b < 0 := by omega
  have h2 : ¬ ((Int.gcd t b : Nat) : Int) = 0 := by have := gcd_pos (a := t) (show b ≠ 0 by omega); omega
  have en : Val.tup [.int (t.fdiv (Int.gcd t b)), .int (b.fdiv (Int.gcd t b))] = nv (Rat.divInt t b) := by unfold nv; rw [divInt_num hb, divInt_den hb]
  unfold fd_law_num5
  walk_at "evh"
theorem callF_plus5 (h211 : FT 211 = some fd_law_num5) (h : FT 156 = some fd_law_plus5) {n i j : Nat} {p q : Rat} (hp : Bd i p) (hq : Bd j q) (hl : i + j < 134000000) : callF FT (n + 2) 156 [nv p, nv q] = .ok (nv (p + q), false) := by
  rw [callF_s h rfl, ← plus_eq]
  have e := callF_num5 h211 (n := n) (t := p.num * q.den + q.num * p.den) (b := p.den * q.den) (Int.mul_pos (den_pos p) (den_pos q))
  have m1 : mulOk p.num q.den = true := mul_ok hp.1 hq.2 hl
  have m2 : mulOk q.num p.den = true := mul_ok hq.1 hp.2 (by omega)
  have m3 : mulOk p.den q.den = true := mul_ok hp.2 hq.2 hl
  unfold fd_law_plus5
  unfold nv at *
  walk_at "evh"
theorem callF_times5 (h211 : FT 211 = some fd_law_num5) (h : FT 145 = some fd_law_times5) {n i j : Nat} {p q : Rat} (hp : Bd i p) (hq : Bd j q) (hl : i + j < 134000000) : callF FT (n + 2) 145 [nv p, nv q] = .ok (nv (p * q), false) := by
  rw [callF_s h rfl, ← times_eq]
  have e := callF_num5 h211 (n := n) (t := p.num * q.num) (b := p.den * q.den) (Int.mul_pos (den_pos p) (den_pos q))
  have m1 : mulOk p.num q.num = true := mul_ok hp.1 hq.1 hl
  have m3 : mulOk p.den q.den = true := mul_ok hp.2 hq.2 hl
  unfold fd_law_times5
  unfold nv at *
  walk_at "evh"
theorem clean5_loop {cl : Nat → List Val → R (Val × Bool)} {x0 : Option (Val × Bool)} : ∀ (n : Nat) (l : List Rat), l.length ≤ n →
    whlO cl (.and (.cmp .ne (.bor 1) (.lst [])) (.cmp .eq (.ix (.ix (.bor 1) (.neg (.cst (.int 1)))) (.cst (.int 0))) (.cst (.int 0)))) [.pop 1] [x0, some (lv l, true)] = .nx [x0, some (lv (trim l), true)] := fun n l hl => by
  have e2 : Val.lst [] = lv [] := rfl
  rcases List.eq_nil_or_concat l with rfl | ⟨t, a, rfl⟩
  · have e1 : decide (([] : List Rat) = []) = true := rfl
    exact whlO_f (by walk_at "evh")
  · rw [List.concat_eq_append] at hl ⊢
    have e0 : decide (t ++ [a] = []) = false := decide_eq_false (by simp)
    have e1 := ix_last (l := t) (q := a) (L := lv (t ++ [a])) (.inl rfl)
    rw [trim_snoc]
    by_cases h : a = 0
    · rw [if_pos h]
      cases n with
      | zero => simp at hl
      | succ n =>
        rw [← clean5_loop (cl := cl) (x0 := x0) n t (by simp at hl; omega)]
        have e3 : decide (a.num = 0) = true := decide_eq_true (num_zero.mpr h)
        have e4 : ((t ++ [a]).map nv).isEmpty = false := by cases t <;> rfl
        have e5 : ((t ++ [a]).map nv).dropLast = t.map nv := by rw [List.map_append]; simp
        clear h hl
        exact whlO_t (by walk_at "evh") (by walk_at "evh")
    · rw [if_neg h]
      have e3 : decide (a.num = 0) = false := decide_eq_false fun z => h (num_zero.mp z)
      exact whlO_f (by clear h hl; walk_at "evh")
theorem callF_clean5 (h : FT 213 = some fd_law_clean5) {n : Nat} {l : List Rat} : callF FT (n + 1) 213 [lv l] = .ok (cv (trim l), false) := by
  rw [callF_s h rfl]
  have e := clean5_loop (cl := callF FT n) (x0 := some (lv l, false)) l.length l (Nat.le_refl _)
  unfold fd_law_clean5
  walk_at "evh"
theorem callF_sum5 (h211 : FT 211 = some fd_law_num5) (h156 : FT 156 = some fd_law_plus5) (h213 : FT 213 = some fd_law_clean5) (h139 : FT 139 = some fd_law_sum5) {n i j : Nat} {l m : List Rat} (bl : BL (i + 1) l) (bm : BL (j + 1) m) (hl : l.length ≤ 1000) (hm : m.length ≤ 1000) (hb : i + j < 130000000) :
    callF FT (n + 4) 139 [cv l, cv m] = .ok (cv (addP l m), false) := by
  rw [callF_s h139 rfl]
  have hx : (if (m.length : Int) > l.length then (m.length : Int) else l.length) = (max l.length m.length : Nat) := by split <;> omega
  generalize hS : max l.length m.length = S at *
  have r : rngOk (S : Int) = true := rng_ok (by omega)
  have et : (S : Int).toNat = S := Int.toNat_natCast _
  have pad : ∀ q : List Rat, q.length ≤ S → ∀ k, k < S → co (q ++ List.replicate ((S : Int) - (q.length : Int)).toNat 0) k = co q k ∧ k < (q ++ List.replicate ((S : Int) - (q.length : Int)).toNat (0 : Rat)).length := fun q hq k hk => by
    refine ⟨?_, by rw [List.length_append, List.length_replicate]; omega⟩
    unfold co
    rw [List.getD_eq_getElem?_getD, List.getD_eq_getElem?_getD, List.getElem?_append]
    split
    · rfl
    · rename_i hh
      rw [List.getElem?_replicate, List.getElem?_eq_none (by omega)]
      split <;> rfl
  have padE : ∀ q : List Rat, q.length ≤ S → ∀ env : Env, env[4]? = some (some (cv q, false)) → env[2]? = some (some (.int (S : Int), false)) → (evE (callF FT (n + 3)) (.bin .add (.blt .list [(.bor 4)]) (.bin .mul (.lst [(.tup [(.cst (.int 0)), (.cst (.int 1))])]) (.bin .sub (.bor 2) (.blt .len [(.bor 4)])))) env).map (·.1) = .ok (lv (q ++ List.replicate ((S : Int) - (q.length : Int)).toNat 0)) := fun q hq env h4 h2 => by
    have a := rep_lv (q := 0) (k := (S : Int) - (q.length : Int)) (by omega) (by omega)
    have b := add_lv (a := q) (b := List.replicate ((S : Int) - (q.length : Int)).toNat 0) (by rw [List.length_replicate]; omega)
    clear pad
    generalize lv (q ++ List.replicate ((S : Int) - (q.length : Int)).toNat 0) = Q at *
    walk_at "evh"
  have hlS : l.length ≤ S := by omega
  have hmS : m.length ≤ S := by omega
  have e3 : lcR (callF FT (n + 3)) (.ok [cv l, cv m]) (.one 4) none (.bin .add (.blt .list [(.bor 4)]) (.bin .mul (.lst [(.tup [(.cst (.int 0)), (.cst (.int 1))])]) (.bin .sub (.bor 2) (.blt .len [(.bor 4)])))) [some (cv l, false), some (cv m, false), some (.int (S : Int), false), none, none, none] = .ok (.lst [lv (l ++ List.replicate ((S : Int) - (l.length : Int)).toNat 0), lv (m ++ List.replicate ((S : Int) - (m.length : Int)).toNat 0)]) :=
    lcR_items (f := cv) (g := fun q => lv (q ++ List.replicate ((S : Int) - (q.length : Int)).toNat 0)) (l := [l, m]) (by simp) fun q hq => padE q (by
      simp only [List.mem_cons, List.not_mem_nil, or_false] at hq
      rcases hq with rfl | rfl <;> assumption) _ rfl rfl
  have pl := pad l hlS
  have pm := pad m hmS
  generalize l ++ List.replicate ((S : Int) - (l.length : Int)).toNat 0 = L at *
  generalize m ++ List.replicate ((S : Int) - (m.length : Int)).toNat 0 = M at *
  have e5 : lcR (callF FT (n + 3)) (.ok (rngV 0 S)) (.one 5) none (.call 156 [(.ix (.ix (.bor 3) (.cst (.int 0))) (.bor 5)), (.ix (.ix (.bor 3) (.cst (.int 1))) (.bor 5))]) [some (cv l, false), some (cv m, false), some (.int (S : Int), false), some (.lst [lv L, lv M], true), none, none] = .ok (lv ((List.range S).map fun k => co l k + co m k)) := lcR_rng (by omega) fun k hk => by
    obtain ⟨p1, p2⟩ := pl k hk
    obtain ⟨q1, q2⟩ := pm k hk
    have i1 : evIx (lv L) (.int (0 + (k : Nat))) = .ok (nv (co l k)) := by rw [← p1]; exact ix_lvN (k := k) (by omega) (co_get p2)
    have i2 : evIx (lv M) (.int (0 + (k : Nat))) = .ok (nv (co m k)) := by rw [← q1]; exact ix_lvN (k := k) (by omega) (co_get q2)
    have c := callF_plus5 h211 h156 (n := n + 1) (bl.co k) (bm.co k) (by omega)
    have w0 : evIx (.lst [lv L, lv M]) (.int 0) = .ok (lv L) := rfl
    have w1 : evIx (.lst [lv L, lv M]) (.int 1) = .ok (lv M) := rfl
    clear bl bm padE pad e3 pl pm p1 p2 q1 q2
    walk_at "evh"
  have ea : (List.range S).map (fun k => co l k + co m k) = addR l m := by rw [addR_map, hS]
  rw [ea] at e5
  have c := callF_clean5 h213 (n := n + 2) (l := addR l m)
  have e' : trim (addR l m) = addP l m := rfl
  rw [e'] at c
  generalize addR l m = s at *
  generalize addP l m = s' at *
  unfold fd_law_sum5
  clear ea e' bl bm padE pad pl pm
  walk_at "evh"
def prI5 : List S := [.six 2 (.bin .add (.bor 3) (.bor 4)) (.call 156 [(.ix (.bor 2) (.bin .add (.bor 3) (.bor 4))), (.call 145 [(.ix (.bor 0) (.bor 3)), (.ix (.bor 1) (.bor 4))])])]
def prO5 : List S := [.for (.one 4) (.rng1 (.blt .len [(.bor 1)])) prI5]
theorem callF_prod5 (h211 : FT 211 = some fd_law_num5) (h156 : FT 156 = some fd_law_plus5) (h145 : FT 145 = some fd_law_times5) (h213 : FT 213 = some fd_law_clean5) (h140 : FT 140 = some fd_law_product5) {n a b : Nat} {l m : List Rat} (bl : BL (a + 1) l) (bm : BL (b + 1) m) (hl : l.length ≤ 1000) (hm : m.length ≤ 1000) (hc : 1 + m.length * (a + b + 3) + a + b < 120000000) :
    callF FT (n + 3) 140 [cv l, cv m] = .ok (cv (mulP l m), false) ∧ BL (1 + m.length * (a + b + 3)) (mulP l m) := by
  have base := mulg_out (l := l) (m := m) (a := a) (b := b) (B := 1) bl bm (t := 4) (s := 3) (body := fun env' => evSs (callF FT (n + 2)) prI5 env') (body2 := fun env' => evSs (callF FT (n + 2)) prO5 env')
    (fun j F env => ∃ z4, env = [some (cv l, false), some (cv m, false), some (lv F, true), some (.int j, false), z4])
    (fun F env => ∃ z3 z4, env = [some (cv l, false), some (cv m, false), some (lv F, true), z3, z4])
    (fun j k F env hj hk hi bF ⟨z4, hs⟩ => by
      subst hs
      have bp := bl.co j
      have bq := bm.co k
      have bpq := bp.mul bq
      have hix : L2.ixN ((F.map nv).length) ((j : Int) + k) = some (j + k) := by
        unfold L2.ixN
        rw [List.length_map, if_pos (by omega), if_pos (by omega)]; congr 1
      have eF : evIx (lv F) (.int ((j : Int) + k)) = .ok (nv (co F (j + k))) := ix_lvN (k := j + k) (by omega) (co_get hi)
      have el : evIx (cv l) (.int (j : Int)) = .ok (nv (co l j)) := ix_cvN rfl (co_get hj)
      have em : evIx (cv m) (.int (k : Int)) = .ok (nv (co m k)) := ix_cvN rfl (co_get hk)
      have ep : ixPut (F.map nv) ((j : Int) + k) (nv (co F (j + k) + co l j * co m k)) = .ok ((F.set (j + k) (co F (j + k) + co l j * co m k)).map nv) := by
        unfold ixPut; rw [hix, List.map_set]
      have c1 := callF_times5 h211 h145 (n := n) bp bq (by omega)
      have c2 := callF_plus5 h211 h156 (n := n) bF bpq (by omega)
      generalize co l j = p at *
      generalize co m k = q at *
      generalize co F (j + k) = f at *
      refine ⟨_, [some (cv l, false), some (cv m, false), some (lv (F.set (j + k) (f + p * q)), true), some (.int j, false), some (.int k, false)], rfl, ?_, ⟨_, rfl⟩⟩
      unfold prI5
      clear bp bq bF bpq hix bl bm
      walk_at "evh")
    (fun j F env hj ⟨z3, z4, hs⟩ => by
      subst hs
      refine ⟨_, [some (cv l, false), some (cv m, false), some (lv F, true), some (.int j, false), z4], rfl, ⟨_, rfl⟩, fun F' env' e ⟨y4, hs⟩ => ?_⟩
      refine ⟨env', ?_, ⟨_, _, hs⟩⟩
      have r : rngOk (m.length : Int) = true := rng_ok (by omega)
      have et : ((m.length : Int)).toNat = m.length := Int.toNat_natCast _
      unfold prO5
      clear bl bm hs
      walk_at "evh")
    l.length 0 (List.replicate (l.length + m.length - 1) 0) [some (cv l, false), some (cv m, false), some (lv (List.replicate (l.length + m.length - 1) 0), true), none, none] (by omega) (by rw [List.length_replicate]; exact Nat.le_refl _) (fun i hi => by
      have : co (List.replicate (l.length + m.length - 1) (0 : Rat)) i = 0 := by
        unfold co
        rw [List.getD_eq_getElem?_getD, List.getElem?_replicate]; split <;> rfl
      rw [this]; exact (Bd0 (n := 0)).mono (by omega)) ⟨_, _, rfl⟩
  obtain ⟨F', env', e1, ⟨z3, z4, hs⟩, e2, e3, e4⟩ := base
  subst hs
  rw [show ((0 : Nat) : Int) = 0 from rfl] at e1
  have et : trim F' = mulP l m := ev_inj (trim_trim _) .mulP fun x => by
    rw [ev_trim, ev_mulP, e4, ev_rep, List.drop_zero, Rat.pow_zero]; grind
  refine ⟨?_, ?_⟩
  · rw [callF_s h140 rfl]
    have hx : (if (l.length : Int) + (m.length : Int) - 1 > 0 then (l.length : Int) + (m.length : Int) - 1 else 0) = (l.length + m.length - 1 : Nat) := by split <;> omega
    have er : evBin .mul (lv [0]) (.int ((l.length + m.length - 1 : Nat) : Int)) = .ok (lv (List.replicate (l.length + m.length - 1) 0)) := by
      rw [rep_lv (by omega) (by omega), Int.toNat_natCast]
    have r1 : rngOk (l.length : Int) = true := rng_ok (by omega)
    have et1 : ((l.length : Int)).toNat = l.length := Int.toNat_natCast _
    have c := callF_clean5 h213 (n := n + 1) (l := F')
    rw [et] at c
    have eb : fd_law_product5.body = [.set 2 (.bin .mul (.lst [(.tup [(.cst (.int 0)), (.cst (.int 1))])]) (.blt .max2 [(.cst (.int 0)), (.bin .sub (.bin .add (.blt .len [(.bor 0)]) (.blt .len [(.bor 1)])) (.cst (.int 1)))])), .for (.one 3) (.rng1 (.blt .len [(.bor 0)])) prO5, .ret (.call 213 [(.nm 2)])] := rfl
    rw [eb, show fd_law_product5.nl = 5 from rfl]
    clear eb e2 e3 e4 et bl bm
    generalize (List.replicate (l.length + m.length - 1) (0 : Rat)) = Z at *
    generalize mulP l m = pr at *
    generalize (l.length + m.length - 1 : Nat) = q at *
    walk_at "evh"
  · rw [← et]
    refine BL.trim fun q hq => ?_
    obtain ⟨i, hi⟩ := List.mem_iff_getElem?.mp hq
    have hlt : i < F'.length := (List.getElem?_eq_some_iff.mp hi).1
    rw [co_get hlt] at hi
    rw [← Option.some.inj hi]
    exact e3 i (by omega)
end
end G

set_option linter.all false
set_option maxHeartbeats 2000000
set_option maxRecDepth 10000
/-! F21: rows of pieces. -/
namespace G
open PySem
local macro_rules | `(tactic| walk_at "ev") => `(tactic| simp only [vl_nm, vl_bor, vl_cst, vl_bin, vl_neg, vl_cmp, vl_isn, vl_chn, vl_inn, vl_and, vl_or, vl_not, vl_ifx, vl_ix, vl_slc, vl_rev, vl_tup, vl_lst, vl_call, vl_blt, vl_isi, vl_lc, ev_nm, ev_cst, ev_bin, ev_neg, ev_cmp, ev_isn, ev_chn, ev_inn, ev_and, ev_or, ev_not, ev_ifx, ev_ix, ev_slc, ev_rev, ev_tup, ev_lst, ev_call, ev_blt, ev_isi, ev_lc, evEs_nil, evEs_cons, evAs_nil, evAs_cons, evO_none, evO_some, evC_none, evC_some, evIt_val, evIt_rng1, evIt_rng2, evIt_rvd, evT_vl, andR_t, andR_f, orR_f, orR_t, ifxR_t, ifxR_f, chnR_t, chnR_f, ss_nil', ss_cons', thn_nx, thn_ret, thn_exc, thn_bad, s_set', set_ok, set_exc, s_unp', unp_ok, s_ifs', if_t, if_f, s_for', for_ok, s_whl', s_ret', s_retn', s_pass', s_rse', s_exp', s_try', try_nx, try_ret, try_exc, s_par', s_par3', s_six', s_app', s_pop', s_popu', s_rev', rO_ok, rO_exc, ret_nm, ret_bor, ret_cst, ret_bin, ret_neg, ret_cmp, ret_isn, ret_chn, ret_inn, ret_and, ret_or, ret_not, ret_ifx, ret_ix, ret_slc, ret_rev, ret_tup, ret_lst, ret_call, ret_blt, ret_isi, ret_lc, fin_nx, fin_ret, fin_exc, b_add, b_sub, b_mul, b_fdiv, b_mod, p11, p12, p30, p42, p57, p59, b_addL, b_addT, b_mulL, c_lt, c_le, c_gt, c_ge, truth_bl, toI_int, toB_bl, items_lst, items_tup, len_lst, len_tup, len_scr, abs_int, int_int, int_bl, list_lst, list_tup, list_scr, tuple_lst, tuple_tup, max_int, min_int, ix_p0, ix_p1, c_eqI, c_neI, startE, frzE, frzI, frzAll, frz, kept, keptL, keptO, keptI, put, look, lookF, ownL_s, ownS_lst, evCall, lent, borI, bind_one, bind_tup, putAll, isLst_int, isLst_bl, isLst_str, isLst_tup, isLst_non, isLst_scr, isLst_exc, isLst_lst, isNon_int, isNon_bl, isNon_str, isNon_tup, isNon_non, isNon_scr, isNon_exc, isNon_lst, R.bind_ok, R.bind_exc, R.map_ok, R.map_exc, List.map_cons, List.map_nil, List.length_cons, List.length_nil, List.replicate, List.cons_append, List.nil_append, List.append_nil, List.getElem?_cons_zero, List.getElem?_cons_succ, List.set_cons_zero, List.set_cons_succ, Bool.false_and, Bool.true_and, Bool.and_true, Bool.and_false, Bool.or_false, Bool.false_or, Bool.or_true, Bool.true_or, Bool.not_true, Bool.not_false, decide_true, decide_false, if_true, if_false, ite_true, ite_false, reduceCtorEq, reduceIte, Nat.reduceAdd, Nat.reduceSub, Nat.reduceMul, Nat.reduceEqDiff, Int.reduceEq, Int.reduceLT, Int.reduceLE, Int.reduceNe, Int.reduceNeg, Int.reduceAdd, Int.reduceMul, Int.reduceSub, Nat.reduceLT, Nat.reduceLeDiff, Int.reduceGT, Int.reduceGE, is_tup_tuple, is_tup_list, is_tup_int, is_tup_bool, is_tup_str, is_lst_tuple, is_lst_list, is_lst_int, is_lst_bool, is_lst_str, is_int_tuple, is_int_list, is_int_int, is_int_bool, is_int_str, is_bl_tuple, is_bl_list, is_bl_int, is_bl_bool, is_bl_str, is_str_tuple, is_str_list, is_str_int, is_str_bool, is_str_str, is_non_tuple, is_non_list, is_non_int, is_non_bool, is_non_str, forS_ok, forB_nx, forB_ret, forL_nil, lc_nil, Int.cast_ofNat_Int, lc_cons, vlE_d, lenOk0, lenOk1, lenOk2, lenOk3, wipe1, wipe2, R.noexc_ok, decide_eq_true_eq, eq_self, ix_nv0, ix_nv1, is_nv_tuple, is_cv_tuple, is_lv_list, is_lv_tuple, is_cv_list, isLst_nv, isLst_cv, isLst_lv, isNon_nv, isNon_cv, isNon_lv, bind_nv, items_cv, items_lv, len_cv, len_lv, list_cv, list_lv, tuple_cv, tuple_lv, c_eqN, c_neN, c_eqC, c_neC, c_eqL, c_neL, nv01, nv11, cv_nil, cv_one, rev_lv, rev_cv, lv_one, lv_map, cv_map, lenOk_map, List.length_map, ownS_lv, back_bl, back_int, back_nv, back_cv, back_lv, c_eqB, c_neB])
local macro_rules | `(tactic| walk_at "evh") => `(tactic| simp only [vl_nm, vl_bor, vl_cst, vl_bin, vl_neg, vl_cmp, vl_isn, vl_chn, vl_inn, vl_and, vl_or, vl_not, vl_ifx, vl_ix, vl_slc, vl_rev, vl_tup, vl_lst, vl_call, vl_blt, vl_isi, vl_lc, ev_nm, ev_cst, ev_bin, ev_neg, ev_cmp, ev_isn, ev_chn, ev_inn, ev_and, ev_or, ev_not, ev_ifx, ev_ix, ev_slc, ev_rev, ev_tup, ev_lst, ev_call, ev_blt, ev_isi, ev_lc, evEs_nil, evEs_cons, evAs_nil, evAs_cons, evO_none, evO_some, evC_none, evC_some, evIt_val, evIt_rng1, evIt_rng2, evIt_rvd, evT_vl, andR_t, andR_f, orR_f, orR_t, ifxR_t, ifxR_f, chnR_t, chnR_f, ss_nil', ss_cons', thn_nx, thn_ret, thn_exc, thn_bad, s_set', set_ok, set_exc, s_unp', unp_ok, s_ifs', if_t, if_f, s_for', for_ok, s_whl', s_ret', s_retn', s_pass', s_rse', s_exp', s_try', try_nx, try_ret, try_exc, s_par', s_par3', s_six', s_app', s_pop', s_popu', s_rev', rO_ok, rO_exc, ret_nm, ret_bor, ret_cst, ret_bin, ret_neg, ret_cmp, ret_isn, ret_chn, ret_inn, ret_and, ret_or, ret_not, ret_ifx, ret_ix, ret_slc, ret_rev, ret_tup, ret_lst, ret_call, ret_blt, ret_isi, ret_lc, fin_nx, fin_ret, fin_exc, b_add, b_sub, b_mul, b_fdiv, b_mod, p11, p12, p30, p42, p57, p59, b_addL, b_addT, b_mulL, c_lt, c_le, c_gt, c_ge, truth_bl, toI_int, toB_bl, items_lst, items_tup, len_lst, len_tup, len_scr, abs_int, int_int, int_bl, list_lst, list_tup, list_scr, tuple_lst, tuple_tup, max_int, min_int, ix_p0, ix_p1, c_eqI, c_neI, startE, frzE, frzI, frzAll, frz, kept, keptL, keptO, keptI, put, look, lookF, ownL_s, ownS_lst, evCall, lent, borI, bind_one, bind_tup, putAll, isLst_int, isLst_bl, isLst_str, isLst_tup, isLst_non, isLst_scr, isLst_exc, isLst_lst, isNon_int, isNon_bl, isNon_str, isNon_tup, isNon_non, isNon_scr, isNon_exc, isNon_lst, R.bind_ok, R.bind_exc, R.map_ok, R.map_exc, List.map_cons, List.map_nil, List.length_cons, List.length_nil, List.replicate, List.cons_append, List.nil_append, List.append_nil, List.getElem?_cons_zero, List.getElem?_cons_succ, List.set_cons_zero, List.set_cons_succ, Bool.false_and, Bool.true_and, Bool.and_true, Bool.and_false, Bool.or_false, Bool.false_or, Bool.or_true, Bool.true_or, Bool.not_true, Bool.not_false, decide_true, decide_false, if_true, if_false, ite_true, ite_false, reduceCtorEq, reduceIte, Nat.reduceAdd, Nat.reduceSub, Nat.reduceMul, Nat.reduceEqDiff, Int.reduceEq, Int.reduceLT, Int.reduceLE, Int.reduceNe, Int.reduceNeg, Int.reduceAdd, Int.reduceMul, Int.reduceSub, Nat.reduceLT, Nat.reduceLeDiff, Int.reduceGT, Int.reduceGE, is_tup_tuple, is_tup_list, is_tup_int, is_tup_bool, is_tup_str, is_lst_tuple, is_lst_list, is_lst_int, is_lst_bool, is_lst_str, is_int_tuple, is_int_list, is_int_int, is_int_bool, is_int_str, is_bl_tuple, is_bl_list, is_bl_int, is_bl_bool, is_bl_str, is_str_tuple, is_str_list, is_str_int, is_str_bool, is_str_str, is_non_tuple, is_non_list, is_non_int, is_non_bool, is_non_str, forS_ok, forB_nx, forB_ret, forL_nil, lc_nil, Int.cast_ofNat_Int, lc_cons, vlE_d, lenOk0, lenOk1, lenOk2, lenOk3, wipe1, wipe2, R.noexc_ok, decide_eq_true_eq, eq_self, ix_nv0, ix_nv1, is_nv_tuple, is_cv_tuple, is_lv_list, is_lv_tuple, is_cv_list, isLst_nv, isLst_cv, isLst_lv, isNon_nv, isNon_cv, isNon_lv, bind_nv, items_cv, items_lv, len_cv, len_lv, list_cv, list_lv, tuple_cv, tuple_lv, c_eqN, c_neN, c_eqC, c_neC, c_eqL, c_neL, nv01, nv11, cv_nil, cv_one, rev_lv, rev_cv, lv_one, lv_map, cv_map, lenOk_map, List.length_map, ownS_lv, back_bl, back_int, back_nv, back_cv, back_lv, c_eqB, c_neB, *])
def fd_row_of : FD := ⟨1, 5, [.ifs (.not (.chn .lt .le (.cst (.int 0)) (.blt .len [(.bor 0)]) (.cst (.int 8)))) [.rse 6] [], .for (.one 1) (.rng1 (.blt .len [(.bor 0)])) [.unp [2, 3, 4] (.ix (.bor 0) (.bor 1)), .ifs (.or (.not (.call 2 [(.bor 2), (.bor 3)])) (.and (.cmp .gt (.bor 1) (.cst (.int 0))) (.cmp .ne (.bor 2) (.ix (.ix (.bor 0) (.bin .sub (.bor 1) (.cst (.int 1)))) (.cst (.int 1)))))) [.rse 6] []], .for (.tup [2, 3, 4]) (.val (.nm 0)) [.ifs (.cmp .gt (.blt .len [(.bor 4)]) (.bin .add (.cst (.int 6)) (.cst (.int 1)))) [.rse 3] []], .ret (.blt .tuple [(.bor 0)])]⟩
def fd_smooth_at : FD := ⟨3, 4, [.ifs (.cmp .eq (.bor 0) (.bor 1)) [.ret (.cst .non)] [], .set 3 (.neg (.cst (.int 1))), .whl (.cmp .eq (.call 10 [(.bor 0), (.bor 2)]) (.call 10 [(.bor 1), (.bor 2)])) [.set 0 (.call 17 [(.nm 0)]), .set 1 (.call 17 [(.nm 1)]), .set 3 (.bin .add (.bor 3) (.cst (.int 1)))], .ret (.nm 3)]⟩
def fd_smoothness : FD := ⟨1, 2, [.ret (.lc (.one 1) (.rng2 (.cst (.int 1)) (.blt .len [(.bor 0)])) none (.call 93 [(.ix (.ix (.bor 0) (.bin .sub (.bor 1) (.cst (.int 1)))) (.cst (.int 2))), (.ix (.ix (.bor 0) (.bor 1)) (.cst (.int 2))), (.ix (.ix (.bor 0) (.bor 1)) (.cst (.int 0)))]))]⟩
def fd_is_joined : FD := ⟨1, 1, [.ret (.inn true (.neg (.cst (.int 1))) (.call 94 [(.nm 0)]))]⟩
def fd_row_moved : FD := ⟨2, 5, [.ret (.blt .tuple [(.lc (.tup [2, 3, 4]) (.val (.bor 0)) none (.tup [(.call 4 [(.nm 2), (.nm 1)]), (.call 4 [(.nm 3), (.nm 1)]), (.call 18 [(.nm 4), (.nm 1)])]))])]⟩
/-- a piece -/
structure P3 where
  lo : Rat
  hi : Rat
  c : List Rat
instance : Inhabited P3 := ⟨⟨0, 0, []⟩⟩
def v3 (p : P3) : Val := .tup [nv p.lo, nv p.hi, cv p.c]
def rowV (Ps : List P3) : Val := .tup (Ps.map v3)
def plV (Ps : List P3) : Val := .lst (Ps.map v3)
def gp (Ps : List P3) (k : Nat) : P3 := Ps.getD k default
theorem gp_get {Ps : List P3} {k : Nat} (h : k < Ps.length) : Ps[k]? = some (gp Ps k) := by
  unfold gp; rw [List.getD_eq_getElem?_getD, List.getElem?_eq_getElem h]; rfl
theorem gp_mem {Ps : List P3} {k : Nat} (h : k < Ps.length) : gp Ps k ∈ Ps := List.mem_iff_getElem?.mpr ⟨k, gp_get h⟩
theorem ix_plV {Ps : List P3} {i : Int} {k : Nat} (hi : i = k) (h : k < Ps.length) : evIx (plV Ps) (.int i) = .ok (v3 (gp Ps k)) := by
  subst hi
  show ofO (L2.atI (Ps.map v3) (k : Int)) = _
  rw [atI_mapF, atI_nn (by omega) (by omega), Int.toNat_natCast, gp_get h]; rfl
theorem ix_rowV {Ps : List P3} {i : Int} {k : Nat} (hi : i = k) (h : k < Ps.length) : evIx (rowV Ps) (.int i) = .ok (v3 (gp Ps k)) := by
  subst hi
  show ofO (L2.atI (Ps.map v3) (k : Int)) = _
  rw [atI_mapF, atI_nn (by omega) (by omega), Int.toNat_natCast, gp_get h]; rfl
theorem ix_v30 {p : P3} : evIx (v3 p) (.int 0) = .ok (nv p.lo) := rfl
theorem ix_v31 {p : P3} : evIx (v3 p) (.int 1) = .ok (nv p.hi) := rfl
theorem ix_v32 {p : P3} : evIx (v3 p) (.int 2) = .ok (cv p.c) := rfl
theorem len_plV {Ps : List P3} : evBf .len [plV Ps] = .ok (.int (Ps.length : Int)) := by show R.ok (Val.int ((Ps.map v3).length : Int)) = _; rw [List.length_map]
theorem len_rowV {Ps : List P3} : evBf .len [rowV Ps] = .ok (.int (Ps.length : Int)) := by show R.ok (Val.int ((Ps.map v3).length : Int)) = _; rw [List.length_map]
theorem bind_v3 {i j k : Nat} {env : Env} {p : P3} : bindT (.tup [i, j, k]) env (v3 p) = .ok (put (put (put env i (nv p.lo) false) j (nv p.hi) false) k (cv p.c) false) := rfl
/-- a comprehension, whatever its target -/
theorem lcR_gen {α : Type} {cl : Nat → List Val → R (Val × Bool)} {tg : Tg} {env : Env} {el : E} {f g : α → Val} {l : List α} (hm : l.length ≤ 1000000) (h : ∀ q ∈ l, ∃ env1, bindT tg (wipeE env (tgs tg)) (f q) = .ok env1 ∧ (evE cl el env1).map (·.1) = .ok (g q)) :
    lcR cl (.ok (l.map f)) tg none el env = .ok (.lst (l.map g)) := by
  rw [lcR_ok, List.length_map, if_pos (lenOk_lit hm)]
  have e : lcLoop tg (wipeE env (tgs tg)) (fun env' => (evC cl none env').noexc) (fun env' => (vlE cl el env').noexc) (l.map f) = .ok (l.map g) := by
    induction l with
    | nil => rfl
    | cons a l ih =>
      obtain ⟨env1, h1, h2⟩ := h a List.mem_cons_self
      rw [List.map_cons, lc_cons, ih (by simp at hm; omega) fun q hq => h q (List.mem_cons_of_mem _ hq)]
      have e1 : vlE cl el env1 = .ok (g a) := h2
      simp only [h1, R.bind_ok, evC_none, R.noexc_ok, if_true, e1, List.map_cons]
  rw [e]; rfl
theorem lcR_rngV {cl : Nat → List Val → R (Val × Bool)} {i : Nat} {env : Env} {el : E} {f : Nat → Val} {m : Nat} {lo : Int} (hm : m ≤ 1000000) (h : ∀ k < m, (evE cl el ((env.set i none).set i (some (.int (lo + (k : Nat)), false)))).map (·.1) = .ok (f k)) :
    lcR cl (.ok (rngV lo m)) (.one i) none el env = .ok (.lst ((List.range m).map f)) :=
  lcR_gen (l := List.range m) (f := fun k : Nat => Val.int (lo + k)) (g := f) (by rw [List.length_range]; exact hm) fun k hk => ⟨_, rfl, h k (List.mem_range.mp hk)⟩
/-- pieces that follow on -/
structure Row (Ps : List P3) : Prop where
  p : 0 < Ps.length
  m : Ps.length ≤ 8
  lt : ∀ p ∈ Ps, p.lo < p.hi
  on : ∀ k, k + 1 < Ps.length → (gp Ps k).hi = (gp Ps (k + 1)).lo
  l7 : ∀ p ∈ Ps, p.c.length ≤ 7
/-- how smoothly two curves are joined -/
def Jn (one other : List Rat) (X : Rat) (v : Val) : Prop := (v = .non ∧ one = other) ∨ ∃ (m : Nat) (q : Rat), v = .int ((m : Int) - 1) ∧ q ≠ 0 ∧ m ≤ 6 ∧ ∀ x, ev other x - ev one x = q * (x - X) ^ m
def powL (X : Rat) : Nat → List Rat
  | 0 => [1]
  | m + 1 => mulR (powL X m) [0 - X, 1]
theorem ev_powL {X x : Rat} : ∀ m, ev (powL X m) x = (x - X) ^ m
  | 0 => by show 1 + x * 0 = _; rw [Rat.pow_zero]; grind
  | m + 1 => by
    show ev (mulR (powL X m) [0 - X, 1]) x = _
    rw [ev_mulR, ev_powL m, Rat.pow_succ]
    show _ * (0 - X + x * (1 + x * 0)) = _
    grind
theorem dv_powL {X x : Rat} : ∀ m, ev (dv (powL X (m + 1))) x = ((m + 1 : Nat) : Rat) * (x - X) ^ m
  | 0 => by
    show ev (dv (mulR (powL X 0) [0 - X, 1])) x = _
    rw [dv_mulR]
    have e2 : ev (dv [0 - X, 1]) x = 1 := by rw [ev_dv_cons, ev_dv_cons]; show 1 + x * 0 + x * (0 + x * 0) = _; grind
    have e3 : ev (dv (powL X 0)) x = 0 := by show ev (dv [1]) x = 0; rw [ev_dv_cons]; show 0 + x * 0 = _; grind
    have e4 : ev (powL X 0) x = 1 := by rw [ev_powL, Rat.pow_zero]
    rw [e2, e3, e4, Rat.pow_zero]
    have : ((0 + 1 : Nat) : Rat) = 1 := rfl
    rw [this]; grind
  | m + 1 => by
    show ev (dv (mulR (powL X (m + 1)) [0 - X, 1])) x = _
    rw [dv_mulR, dv_powL m, ev_powL]
    have e1 : ev [0 - X, 1] x = x - X := by show 0 - X + x * (1 + x * 0) = _; grind
    have e2 : ev (dv [0 - X, 1]) x = 1 := by rw [ev_dv_cons, ev_dv_cons]; show 1 + x * 0 + x * (0 + x * 0) = _; grind
    rw [e1, e2, Rat.pow_succ]
    have : ((m + 1 + 1 : Nat) : Rat) = ((m + 1 : Nat) : Rat) + 1 := by push_cast; rfl
    rw [this]; grind
/-- a difference's slope -/
theorem dv_diff {one other : List Rat} {X q : Rat} {m : Nat} (h : ∀ x, ev other x - ev one x = q * (x - X) ^ (m + 1)) (x : Rat) : ev (slpR other) x - ev (slpR one) x = (q * ((m + 1 : Nat) : Rat)) * (x - X) ^ m := by
  have e : trim other = trim (addR one (sclR q (powL X (m + 1)))) := ev_inj (trim_trim _) (trim_trim _) fun x => by
    rw [ev_trim, ev_trim, ev_addR, ev_scl, ev_powL]
    have := h x
    grind
  rw [ev_slp, ev_slp, ← dv_trim other, e, dv_trim, dv_addR, dv_scl, dv_powL]
  grind
theorem one_pow' : ∀ m : Nat, (1 : Rat) ^ m = 1
  | 0 => Rat.pow_zero _
  | m + 1 => by rw [Rat.pow_succ, one_pow' m, Rat.one_mul]
theorem pow_self {X : Rat} {m : Nat} : (X - X) ^ (m + 1) = 0 := by rw [Rat.pow_succ, show X - X = 0 by grind, Rat.mul_zero]
section
variable {FT : Nat → Option FD} (h0 : FT 0 = some fd_divisor_of) (h1 : FT 1 = some fd_number) (h4 : FT 4 = some fd_plus) (h6 : FT 6 = some fd_times)
include h0 h1 h6
theorem BL.slp {a : Nat} {l : List Rat} (bl : BL (a + 1) l) (hl : l.length ≤ 1000) : BL (a + 11) (slpR l) := fun q hq => by
  unfold slpR at hq
  obtain ⟨k, hk, rfl⟩ := List.mem_map.mp hq
  have := List.mem_range.mp hk
  have bk : Bd 10 (((k + 1 : Nat) : Rat)) := by
    constructor
    · rw [Rat.num_natCast, Int.natAbs_natCast]; show k + 1 < 1024; omega
    · rw [Rat.den_natCast]; decide
  exact ((bl.co (k + 1)).mul bk).mono (by omega)
include h4
def smB : List S := [.set 0 (.call 17 [(.nm 0)]), .set 1 (.call 17 [(.nm 1)]), .set 3 (.bin .add (.bor 3) (.cst (.int 1)))]
theorem sm_loop (h10 : FT 10 = some fd_worth) (h17 : FT 17 = some fd_slope) {n i : Nat} {X : Rat} (bX : Bd i X) (hi : i ≤ 100000) : ∀ (m : Nat) (one other : List Rat) (q : Rat) (f : Int) (K : Nat), q ≠ 0 → (∀ x, ev other x - ev one x = q * (x - X) ^ m) → BL (K + 1) one → BL (K + 1) other → one.length ≤ 13 → other.length ≤ 13 → K + 10 * m ≤ 9000000 →
    ∃ y0 y1, whlO (callF FT (n + 4)) (.cmp .eq (.call 10 [(.bor 0), (.bor 2)]) (.call 10 [(.bor 1), (.bor 2)])) smB [some (cv one, false), some (cv other, false), some (nv X, false), some (.int f, false)] = .nx [y0, y1, some (nv X, false), some (.int (f + m), false)]
  | 0, one, other, q, f, K, hq, h, b1, b2, l1, l2, hK => by
    have hl1 := Nat.mul_le_mul_right (i + (K + 1) + 1) l1
    have hl2 := Nat.mul_le_mul_right (i + (K + 1) + 1) l2
    have c1 := (callF_worth h0 h1 h4 h6 h10 (n := n) b1 bX (by omega)).1
    have c2 := (callF_worth h0 h1 h4 h6 h10 (n := n) b2 bX (by omega)).1
    have e := h X
    rw [Rat.pow_zero] at e
    have d : decide (ev one X = ev other X) = false := decide_eq_false fun z => hq (by grind)
    refine ⟨some (cv one, false), some (cv other, false), ?_⟩
    rw [show f + ((0 : Nat) : Int) = f by omega]
    exact whlO_f (by clear b1 b2 bX h e hq; walk_at "evh")
  | m + 1, one, other, q, f, K, hq, h, b1, b2, l1, l2, hK => by
    have hl1 := Nat.mul_le_mul_right (i + (K + 1) + 1) l1
    have hl2 := Nat.mul_le_mul_right (i + (K + 1) + 1) l2
    have c1 := (callF_worth h0 h1 h4 h6 h10 (n := n) b1 bX (by omega)).1
    have c2 := (callF_worth h0 h1 h4 h6 h10 (n := n) b2 bX (by omega)).1
    have e := h X
    rw [pow_self, Rat.mul_zero] at e
    have d : decide (ev one X = ev other X) = true := decide_eq_true (by grind)
    have s1 := callF_slope h0 h1 h6 h17 (n := n) b1 (by omega) (by omega)
    have s2 := callF_slope h0 h1 h6 h17 (n := n) b2 (by omega) (by omega)
    have hm : ((m + 1 : Nat) : Rat) ≠ 0 := fun z => by have := Rat.natCast_eq_zero_iff.mp z; omega
    obtain ⟨y0, y1, ih⟩ := sm_loop h10 h17 (n := n) bX hi m (slpR one) (slpR other) (q * ((m + 1 : Nat) : Rat)) (f + 1) (K + 10) (by grind) (dv_diff h) (BL.slp h0 h1 h6 b1 (by omega)) (BL.slp h0 h1 h6 b2 (by omega)) (by rw [slpR_len]; omega) (by rw [slpR_len]; omega) (by omega)
    refine ⟨y0, y1, ?_⟩
    rw [show f + ((m + 1 : Nat) : Int) = f + 1 + (m : Int) by omega, ← ih]
    clear ih h e hq hm b1 b2 bX
    exact whlO_t (by walk_at "evh") (by unfold smB; walk_at "evh")
theorem callF_smooth (h10 : FT 10 = some fd_worth) (h17 : FT 17 = some fd_slope) (h93 : FT 93 = some fd_smooth_at) {n i K : Nat} {X : Rat} {one other : List Rat} {v : Val} (bX : Bd i X) (hi : i ≤ 100000) (hj : Jn one other X v) (b1 : BL (K + 1) one) (b2 : BL (K + 1) other) (l1 : one.length ≤ 13) (l2 : other.length ≤ 13) (hK : K ≤ 8000000) : callF FT (n + 5) 93 [cv one, cv other, nv X] = .ok (v, false) := by
  rw [callF_s h93 rfl]
  have eb : fd_smooth_at.body = [.ifs (.cmp .eq (.bor 0) (.bor 1)) [.ret (.cst .non)] [], .set 3 (.neg (.cst (.int 1))), .whl (.cmp .eq (.call 10 [(.bor 0), (.bor 2)]) (.call 10 [(.bor 1), (.bor 2)])) smB, .ret (.nm 3)] := rfl
  rw [eb, show fd_smooth_at.nl = 4 from rfl]
  rcases hj with ⟨rfl, rfl⟩ | ⟨m, q, rfl, hq, hm, h⟩
  · clear eb bX b1 b2
    walk_at "evh"
  · obtain ⟨y0, y1, e⟩ := sm_loop h0 h1 h4 h6 h10 h17 (n := n) bX hi m one other q (-1) K hq h b1 b2 l1 l2 (by omega)
    rw [show (-1 : Int) + (m : Int) = (m : Int) - 1 by omega] at e
    have d : decide (one = other) = false := decide_eq_false fun z => by
      subst z
      have := h (X + 1)
      rw [show X + 1 - X = 1 by grind, one_pow'] at this
      exact hq (by grind)
    clear eb bX b1 b2 h hq
    walk_at "evh"
end
section
variable {FT : Nat → Option FD}
/-- the row's numbers are small -/
def RB (i K : Nat) (Ps : List P3) : Prop := ∀ p ∈ Ps, Bd i p.lo ∧ Bd i p.hi ∧ BL (K + 1) p.c
def roB : List S := [.unp [2, 3, 4] (.ix (.bor 0) (.bor 1)), .ifs (.or (.not (.call 2 [(.bor 2), (.bor 3)])) (.and (.cmp .gt (.bor 1) (.cst (.int 0))) (.cmp .ne (.bor 2) (.ix (.ix (.bor 0) (.bin .sub (.bor 1) (.cst (.int 1)))) (.cst (.int 1)))))) [.rse 6] []]
def roC : List S := [.ifs (.cmp .gt (.blt .len [(.bor 4)]) (.bin .add (.cst (.int 6)) (.cst (.int 1)))) [.rse 3] []]
theorem ro_loop (h2 : FT 2 = some fd_less) {n i K : Nat} {Ps : List P3} (hr : Row Ps) (hb : RB i K Ps) (hi : i ≤ 10000000) : ∀ (d k : Nat) (z1 z2 z3 z4 : Option (Val × Bool)), k + d ≤ Ps.length →
    ∃ y1 y2 y3 y4, forL (.one 1) (fun env' => evSs (callF FT (n + 1)) roB env') (rngV k d) [some (plV Ps, false), z1, z2, z3, z4] = .nx [some (plV Ps, false), y1, y2, y3, y4]
  | 0, k, z1, z2, z3, z4, _ => ⟨_, _, _, _, rfl⟩
  | d + 1, k, z1, z2, z3, z4, h => by
    obtain ⟨b1, b2, _⟩ := hb _ (gp_mem (show k < Ps.length by omega))
    have c := callF_less h2 (n := n) b1 b2 (by omega)
    rw [decide_eq_true (hr.lt _ (gp_mem (show k < Ps.length by omega)))] at c
    have ix := ix_plV (Ps := Ps) (i := (k : Int)) rfl (show k < Ps.length by omega)
    obtain ⟨y1, y2, y3, y4, e⟩ := ro_loop h2 (n := n) hr hb hi d (k + 1) (some (.int k, false)) (some (nv (gp Ps k).lo, false)) (some (nv (gp Ps k).hi, false)) (some (cv (gp Ps k).c, false)) (by omega)
    refine ⟨y1, y2, y3, y4, ?_⟩
    rw [rngV_succ, show (k : Int) + 1 = ((k + 1 : Nat) : Int) by omega, ← e]
    refine forL_cons (env1 := [some (plV Ps, false), some (.int k, false), z2, z3, z4]) rfl ?_
    have bv := @bind_v3
    have v1 := @ix_v31
    unfold roB
    cases k with
    | zero =>
      have ix : evIx (plV Ps) (.int 0) = .ok (v3 (gp Ps 0)) := ix
      clear e hb hr b1 b2
      walk_at "evh"
    | succ k =>
      have kp : (0 : Int) < ((k + 1 : Nat) : Int) := by omega
      have ix2 := ix_plV (Ps := Ps) (i := ((k + 1 : Nat) : Int) - 1) (k := k) (by omega) (by omega)
      have on := hr.on k (by omega)
      have d1 : decide ((gp Ps (k + 1)).lo = (gp Ps k).hi) = true := decide_eq_true on.symm
      clear e hb hr b1 b2 on h
      generalize ((k + 1 : Nat) : Int) = kk at *
      walk_at "evh"
theorem ro_loop2 {n : Nat} {x0 x1 : Option (Val × Bool)} : ∀ (Ps : List P3) (z2 z3 z4 : Option (Val × Bool)), (∀ p ∈ Ps, p.c.length ≤ 7) →
    ∃ y2 y3 y4, forL (.tup [2, 3, 4]) (fun env' => evSs (callF FT n) roC env') (Ps.map v3) [x0, x1, z2, z3, z4] = .nx [x0, x1, y2, y3, y4]
  | [], z2, z3, z4, _ => ⟨_, _, _, rfl⟩
  | p :: Ps, z2, z3, z4, h => by
    obtain ⟨y2, y3, y4, e⟩ := ro_loop2 (n := n) (x0 := x0) (x1 := x1) Ps (some (nv p.lo, false)) (some (nv p.hi, false)) (some (cv p.c, false)) (fun q hq => h q (List.mem_cons_of_mem _ hq))
    refine ⟨y2, y3, y4, ?_⟩
    have l7 : ¬ (7 : Int) < (p.c.length : Int) := by have := h p List.mem_cons_self; omega
    rw [List.map_cons, ← e]
    refine forL_cons (env1 := [x0, x1, some (nv p.lo, false), some (nv p.hi, false), some (cv p.c, false)]) rfl ?_
    unfold roC
    clear e h
    walk_at "evh"
theorem callF_row_of (h2 : FT 2 = some fd_less) (h90 : FT 90 = some fd_row_of) {n i K : Nat} {Ps : List P3} (hr : Row Ps) (hb : RB i K Ps) (hi : i ≤ 10000000) : callF FT (n + 2) 90 [plV Ps] = .ok (rowV Ps, false) := by
  rw [callF_s h90 rfl]
  obtain ⟨y1, y2, y3, y4, e1⟩ := ro_loop h2 (n := n) hr hb hi Ps.length 0 none none none none (by omega)
  obtain ⟨w2, w3, w4, e2⟩ := ro_loop2 (FT := FT) (n := n + 1) (x0 := some (plV Ps, false)) (x1 := y1) Ps y2 y3 y4 hr.l7
  rw [show ((0 : Nat) : Int) = 0 from rfl] at e1
  have p := hr.p
  have m := hr.m
  have c1 : (0 : Int) < (Ps.length : Int) := by omega
  have c2 : (Ps.length : Int) ≤ 8 := by omega
  have r : rngOk (Ps.length : Int) = true := rng_ok (by omega)
  have et : (Ps.length : Int).toNat = Ps.length := Int.toNat_natCast _
  have it : itemsOf (plV Ps) = .ok (Ps.map v3) := rfl
  have ln := len_plV (Ps := Ps)
  have tp : evBf .tuple [plV Ps] = .ok (rowV Ps) := rfl
  have il : isLst (rowV Ps) = false := rfl
  have eb : fd_row_of.body = [.ifs (.not (.chn .lt .le (.cst (.int 0)) (.blt .len [(.bor 0)]) (.cst (.int 8)))) [.rse 6] [], .for (.one 1) (.rng1 (.blt .len [(.bor 0)])) roB, .for (.tup [2, 3, 4]) (.val (.nm 0)) roC, .ret (.blt .tuple [(.bor 0)])] := rfl
  rw [eb, show fd_row_of.nl = 5 from rfl]
  clear eb hr hb p m
  walk_at "evh"
variable (h0 : FT 0 = some fd_divisor_of) (h1 : FT 1 = some fd_number) (h4 : FT 4 = some fd_plus) (h6 : FT 6 = some fd_times)
include h0 h1 h4 h6
theorem callF_smoothness (h10 : FT 10 = some fd_worth) (h17 : FT 17 = some fd_slope) (h93 : FT 93 = some fd_smooth_at) (h94 : FT 94 = some fd_smoothness) {n i K : Nat} {Ps : List P3} {s : Nat → Val} (hp : 0 < Ps.length) (h8 : Ps.length ≤ 8) (hb : RB i K Ps) (hi : i ≤ 100000) (hK : K ≤ 8000000) (h7 : ∀ p ∈ Ps, p.c.length ≤ 7) (hs : ∀ k, k + 1 < Ps.length → Jn (gp Ps k).c (gp Ps (k + 1)).c (gp Ps (k + 1)).lo (s k)) :
    callF FT (n + 6) 94 [rowV Ps] = .ok (.lst ((List.range (Ps.length - 1)).map s), true) := by
  rw [callF_s h94 rfl]
  have e : lcR (callF FT (n + 5)) (.ok (rngV 1 (Ps.length - 1))) (.one 1) none (.call 93 [(.ix (.ix (.bor 0) (.bin .sub (.bor 1) (.cst (.int 1)))) (.cst (.int 2))), (.ix (.ix (.bor 0) (.bor 1)) (.cst (.int 2))), (.ix (.ix (.bor 0) (.bor 1)) (.cst (.int 0)))]) [some (rowV Ps, false), none] = .ok (.lst ((List.range (Ps.length - 1)).map s)) := lcR_rngV (by omega) fun k hk => by
    obtain ⟨_, _, b1⟩ := hb _ (gp_mem (show k < Ps.length by omega))
    obtain ⟨bx, _, b2⟩ := hb _ (gp_mem (show k + 1 < Ps.length by omega))
    have l1 := h7 _ (gp_mem (show k < Ps.length by omega))
    have l2 := h7 _ (gp_mem (show k + 1 < Ps.length by omega))
    have c := callF_smooth h0 h1 h4 h6 h10 h17 h93 (n := n) bx hi (hs k (by omega)) b1 b2 (by omega) (by omega) hK
    have i1 := ix_rowV (Ps := Ps) (i := 1 + (k : Int) - 1) (k := k) (by omega) (by omega)
    have i2 := ix_rowV (Ps := Ps) (i := 1 + (k : Int)) (k := k + 1) (by omega) (by omega)
    have v0 := @ix_v30
    have v2 := @ix_v32
    clear hb h7 hs b1 b2 bx l1 l2
    walk_at "evh"
  have r : rngOk (Ps.length : Int) = true := rng_ok (by omega)
  have r1 : rngOk 1 = true := by decide
  have et : ((Ps.length : Int) - 1).toNat = Ps.length - 1 := by omega
  have ln := len_rowV (Ps := Ps)
  unfold fd_smoothness
  clear hb h7 hs
  walk_at "evh"
def mvP (c : Rat) (p : P3) : P3 := ⟨p.lo + c, p.hi + c, movP c p.c⟩
theorem callF_row_moved (h8 : FT 8 = some fd_without_noughts) (h11 : FT 11 = some fd_at_power) (h13 : FT 13 = some fd_added) (h15 : FT 15 = some fd_product) (h18 : FT 18 = some fd_moved) (h96 : FT 96 = some fd_row_moved) {n i j K : Nat} {Ps : List P3} {c : Rat} (bc : Bd j c) (h8' : Ps.length ≤ 8) (hb : RB i K Ps) (hi : i ≤ 100000) (hj : j ≤ 1000) (hK : K ≤ 600000) (h7 : ∀ p ∈ Ps, p.c.length ≤ 7) :
    callF FT (n + 6) 96 [rowV Ps, nv c] = .ok (rowV (Ps.map (mvP c)), false) := by
  rw [callF_s h96 rfl]
  have e : lcR (callF FT (n + 5)) (.ok (Ps.map v3)) (.tup [2, 3, 4]) none (.tup [(.call 4 [(.nm 2), (.nm 1)]), (.call 4 [(.nm 3), (.nm 1)]), (.call 18 [(.nm 4), (.nm 1)])]) [some (rowV Ps, false), some (nv c, false), none, none, none] = .ok (.lst (Ps.map fun p => v3 (mvP c p))) := lcR_gen (by omega) fun p hp => by
    obtain ⟨b1, b2, b3⟩ := hb p hp
    have l7 := h7 p hp
    have hl := Nat.mul_le_mul_right (K + 1) l7
    have hl2 := Nat.mul_le_mul_right (2 * j + 2) l7
    have c1 : callF FT (n + 5) 4 [nv p.lo, nv c] = _ := callF_plus h0 h1 h4 (n := n + 2) b1 bc (by omega)
    have c2 : callF FT (n + 5) 4 [nv p.hi, nv c] = _ := callF_plus h0 h1 h4 (n := n + 2) b2 bc (by omega)
    have c3 : callF FT (n + 5) 18 [cv p.c, nv c] = _ := (callF_moved h0 h1 h4 h6 h8 h11 h13 h15 h18 (n := n) bc b3 (by omega) (by omega)).1
    refine ⟨_, bind_v3, ?_⟩
    have ev : v3 (mvP c p) = .tup [nv (p.lo + c), nv (p.hi + c), cv (movP c p.c)] := rfl
    clear hb h7 b1 b2 b3 bc hl hl2 l7
    simp only [wipeE, tgs]
    walk_at "evh"
  have em : Val.lst (Ps.map fun p => v3 (mvP c p)) = plV (Ps.map (mvP c)) := by unfold plV; rw [List.map_map]; rfl
  rw [em] at e
  have it : itemsOf (rowV Ps) = .ok (Ps.map v3) := rfl
  have tp : evBf .tuple [plV (Ps.map (mvP c))] = .ok (rowV (Ps.map (mvP c))) := rfl
  have il : isLst (rowV (Ps.map (mvP c))) = false := rfl
  unfold fd_row_moved
  clear hb h7 bc em
  generalize plV (Ps.map (mvP c)) = A at *
  generalize rowV (Ps.map (mvP c)) = B at *
  walk_at "evh"
/-- moved, a joint stays as smooth -/
theorem Jn.moved {one other : List Rat} {X c : Rat} {v : Val} (t1 : Trim one) (t2 : Trim other) (h : Jn one other X v) : Jn (movP c one) (movP c other) (X + c) v := by
  rcases h with ⟨h, e⟩ | ⟨m, q, h, hq, hm, e⟩
  · exact .inl ⟨h, by rw [e]⟩
  · refine .inr ⟨m, q, h, hq, hm, fun x => ?_⟩
    rw [ev_mov, ev_mov, e, show x - c - X = x - (X + c) by grind]
end
end G

set_option linter.all false
set_option maxHeartbeats 1000000
/-! M8: common parts, plain parts, twofold parts: the plain laws. -/
namespace G
/-- d divides what is told -/
def Df (d : List Rat) (f : Rat → Rat) : Prop := ∃ q : List Rat, ∀ x, f x = ev q x * ev d x
theorem Df.congr {d : List Rat} {f g : Rat → Rat} (h : Df d f) (e : ∀ x, g x = f x) : Df d g := by
  obtain ⟨q, hq⟩ := h; exact ⟨q, fun x => by rw [e, hq]⟩
theorem ev_one {x : Rat} : ev [1] x = 1 := by show 1 + x * 0 = 1; grind
theorem ev_const {a x : Rat} : ev [a] x = a := by show a + x * 0 = a; grind
theorem Df.refl (d : List Rat) : Df d (ev d) := ⟨[1], fun x => by rw [ev_one]; grind⟩
theorem Df.mulL {d : List Rat} {f : Rat → Rat} (h : Df d f) (a : List Rat) : Df d (fun x => ev a x * f x) := by
  obtain ⟨q, hq⟩ := h; exact ⟨G.mulR a q, fun x => by show ev a x * f x = _; rw [hq, ev_mulR]; grind⟩
theorem Df.mulR {d : List Rat} {f : Rat → Rat} (h : Df d f) (a : List Rat) : Df d (fun x => f x * ev a x) := (h.mulL a).congr fun x => by grind
theorem Df.add {d : List Rat} {f g : Rat → Rat} (h : Df d f) (k : Df d g) : Df d (fun x => f x + g x) := by
  obtain ⟨q, hq⟩ := h; obtain ⟨r, hr⟩ := k
  exact ⟨addR q r, fun x => by show f x + g x = _; rw [hq, hr, ev_addR]; grind⟩
theorem Df.smul {d : List Rat} {f : Rat → Rat} (h : Df d f) (s : Rat) : Df d (fun x => s * f x) := (h.mulL [s]).congr fun x => by rw [ev_const]
theorem Df.sub {d : List Rat} {f g : Rat → Rat} (h : Df d f) (k : Df d g) : Df d (fun x => f x - g x) := (h.add (k.smul (-1))).congr fun x => by grind
theorem Df.trans {d e : List Rat} {f : Rat → Rat} (h : Df d (ev e)) (k : Df e f) : Df d f := by
  obtain ⟨q, hq⟩ := h; obtain ⟨r, hr⟩ := k
  exact ⟨G.mulR r q, fun x => by rw [hr, hq, ev_mulR]; grind⟩
/-- nothing is nought but by a factor that is -/
theorem ev_ne {l : List Rat} (tl : Trim l) (h : ∀ x, ev l x = 0) : l = [] := tl.not_zero (ev_zero h)
theorem cancel {a b c : List Rat} (ta : Trim a) (ha : a ≠ []) (h : ∀ x, ev a x * ev b x = ev a x * ev c x) (x : Rat) : ev b x = ev c x := by
  have e : mulP a (takP b c) = [] := ev_ne .mulP fun x => by rw [ev_mulP, ev_takP]; have := h x; grind
  have : takP b c = [] := by
    rcases Decidable.em (takP b c = []) with z | z
    · exact z
    · have h1 := mulP_len ta Trim.takP ha z
      have h2 := List.length_pos_iff.mpr ha
      have h3 := List.length_pos_iff.mpr z
      rw [e] at h1; simp at h1; omega
  have e2 := ev_takP (l := b) (m := c) (x := x)
  rw [this] at e2
  have e2 : (0 : Rat) = ev b x - ev c x := e2
  grind
theorem Df.len {d l : List Rat} (td : Trim d) (tl : Trim l) (hl : l ≠ []) (h : Df d (ev l)) : d ≠ [] ∧ ∃ q, Trim q ∧ q ≠ [] ∧ l.length + 1 = q.length + d.length ∧ l = mulP q d := by
  obtain ⟨q, hq⟩ := h
  have e : l = mulP (trim q) d := ev_inj tl .mulP fun x => by rw [ev_mulP, ev_trim]; exact hq x
  have hd : d ≠ [] := fun z => by rw [z, mulP_nil] at e; exact hl e
  have hq0 : trim q ≠ [] := fun z => by rw [z] at e; exact hl (by rw [e]; rfl)
  refine ⟨hd, trim q, trim_trim _, hq0, ?_, e⟩
  have := mulP_len (trim_trim q) td hq0 hd
  rw [← e] at this
  have := List.length_pos_iff.mpr hd
  have := List.length_pos_iff.mpr hq0
  omega
theorem Df.le {d l : List Rat} (td : Trim d) (tl : Trim l) (hl : l ≠ []) (h : Df d (ev l)) : d.length ≤ l.length := by
  obtain ⟨_, q, _, h1, h2, _⟩ := h.len td tl hl
  have := List.length_pos_iff.mpr h1
  omega
/-- a number is no part -/
theorem len1 {l : List Rat} (tl : Trim l) (hl : l ≠ []) (h : l.length ≤ 1) : ∃ a, a ≠ 0 ∧ l = [a] := by
  cases l with
  | nil => exact absurd rfl hl
  | cons a t =>
    cases t with
    | nil => exact ⟨a, tl.of_last (l := []), rfl⟩
    | cons b t => simp at h
/-! ### division -/
theorem rch_ev {m l r : List Rat} {t : Nat} (h : Rch m l t r) : ∃ q : List Rat, ∀ x, ev l x = ev q x * ev m x + ev r x := by
  induction h with
  | z => exact ⟨[], fun x => by show ev l x = 0 * _ + _; grind⟩
  | @s t r h hl ih =>
    obtain ⟨q, hq⟩ := ih
    refine ⟨addR q (List.replicate (r.length - m.length) 0 ++ [ld r / ld m]), fun x => ?_⟩
    rw [hq, ev_addR, ev_app_rep, ev_const, ev_stp]
    grind
theorem div_ex {m : List Rat} (hm : m ≠ []) (tm : Trim m) : ∀ (n : Nat) (l : List Rat), l.length ≤ n → Trim l → ∃ q r, Trim r ∧ r.length < m.length ∧ ∀ x, ev l x = ev q x * ev m x + ev r x
  | n, l, h, tl => by
    by_cases hl : l.length < m.length
    · exact ⟨[], l, tl, hl, fun x => by show ev l x = 0 * _ + _; grind⟩
    · have hp := List.length_pos_iff.mpr hm
      cases n with
      | zero => omega
      | succ n =>
        have hlt := stp_len hm tm (show m.length ≤ l.length by omega)
        obtain ⟨q, r, t1, t2, e⟩ := div_ex hm tm n (stp m l) (by omega) Trim.takP
        refine ⟨addR q (List.replicate (l.length - m.length) 0 ++ [ld l / ld m]), r, t1, t2, fun x => ?_⟩
        have := e x
        rw [ev_stp] at this
        rw [ev_addR, ev_app_rep, ev_const]
        grind
/-! ### common parts -/
/-- p is put together of a and b -/
def Lin (p a b : List Rat) : Prop := ∃ u v : List Rat, ∀ x, ev p x = ev u x * ev a x + ev v x * ev b x
theorem Lin.l (a b : List Rat) : Lin a a b := ⟨[1], [], fun x => by rw [ev_one]; show _ = _ + 0 * _; grind⟩
theorem Lin.r (a b : List Rat) : Lin b a b := ⟨[], [1], fun x => by rw [ev_one]; show _ = 0 * _ + _; grind⟩
theorem Lin.comp {p a b c d : List Rat} (h : Lin p a b) (ha : Lin a c d) (hb : Lin b c d) : Lin p c d := by
  obtain ⟨u, v, h⟩ := h; obtain ⟨u1, v1, ha⟩ := ha; obtain ⟨u2, v2, hb⟩ := hb
  exact ⟨addR (mulR u u1) (mulR v u2), addR (mulR u v1) (mulR v v2), fun x => by
    rw [h, ha, hb]; simp only [ev_addR, ev_mulR]; grind⟩
theorem Lin.df {p a b d : List Rat} (h : Lin p a b) (ha : Df d (ev a)) (hb : Df d (ev b)) : Df d (ev p) := by
  obtain ⟨u, v, h⟩ := h
  exact ((ha.mulL u).add (hb.mulL v)).congr h
structure Gcd (g a' b' : List Rat) : Prop where
  t : Trim g
  a : Df g (ev a')
  b : Df g (ev b')
  l : Lin g a' b'
theorem Gcd.comm {g a b : List Rat} (h : Gcd g a b) : Gcd g b a := ⟨h.t, h.b, h.a, by
  obtain ⟨u, v, e⟩ := h.l
  exact ⟨v, u, fun x => by rw [e]; grind⟩⟩
theorem gcd_ex : ∀ (n : Nat) (a b : List Rat), b.length ≤ n → Trim a → Trim b → ∃ g, Gcd g a b
  | n, a, b, h, ta, tb => by
    rcases Decidable.em (b = []) with rfl | hb
    · exact ⟨a, ta, .refl a, ⟨[], fun x => by show (0 : Rat) = 0 * _; grind⟩, .l a []⟩
    · have hp := List.length_pos_iff.mpr hb
      cases n with
      | zero => omega
      | succ n =>
        obtain ⟨q, r, tr, hr, e⟩ := div_ex hb tb a.length a (Nat.le_refl _) ta
        obtain ⟨g, tg, g1, g2, g3⟩ := gcd_ex n b r (by omega) tb tr
        refine ⟨g, tg, ((g1.mulL q).add g2).congr e, g1, g3.comp (.r a b) ?_⟩
        exact ⟨[1], takP [] q, fun x => by
          rw [ev_one, ev_takP, e]; show _ = _ + (0 - _) * _; grind⟩
def Cop (a b : List Rat) : Prop := ∃ u v : List Rat, ∀ x, ev u x * ev a x + ev v x * ev b x = 1
theorem Gcd.cop {g a b : List Rat} (h : Gcd g a b) (hg : g ≠ []) (h1 : g.length ≤ 1) : Cop a b := by
  obtain ⟨s, hs, rfl⟩ := len1 h.t hg h1
  obtain ⟨u, v, e⟩ := h.l
  refine ⟨mulR [1 / s] u, mulR [1 / s] v, fun x => ?_⟩
  have := e x
  rw [ev_const] at this
  simp only [ev_mulR, ev_const]
  have h2 : 1 / s * s = 1 := by rw [Rat.div_def, Rat.one_mul, Rat.inv_mul_cancel s hs]
  have : 1 / s * ev u x * ev a x + 1 / s * ev v x * ev b x = 1 / s * s := by rw [this]; grind
  rw [this, h2]
theorem Gcd.ne {g a b : List Rat} (h : Gcd g a b) (ta : Trim a) (ha : a ≠ []) : g ≠ [] := (h.a.len h.t ta ha).1
/-! ### parts that nothing but itself divides -/
structure Irr (p : List Rat) : Prop where
  t : Trim p
  g : 1 < p.length
  o : ∀ d, Trim d → Df d (ev p) → d.length ≤ 1 ∨ d.length = p.length
theorem Irr.ne {p : List Rat} (h : Irr p) : p ≠ [] := fun z => by have := h.g; rw [z] at this; simp at this
theorem irr_ex : ∀ (n : Nat) (c : List Rat), c.length ≤ n → Trim c → 1 < c.length → ∃ p, Irr p ∧ Df p (ev c)
  | n, c, hn, tc, h1 => by
    by_cases h : Irr c
    · exact ⟨c, h, .refl c⟩
    · have : ∃ d, Trim d ∧ Df d (ev c) ∧ 1 < d.length ∧ d.length ≠ c.length := by
        refine Classical.byContradiction fun z => h ⟨tc, h1, fun d td hd => ?_⟩
        by_cases hh : d.length ≤ 1
        · exact .inl hh
        · exact .inr (Classical.byContradiction fun w => z ⟨d, td, hd, by omega, w⟩)
      obtain ⟨d, td, hd, d1, d2⟩ := this
      have hc : c ≠ [] := fun z => by rw [z] at h1; simp at h1
      have := hd.le td tc hc
      cases n with
      | zero => omega
      | succ n =>
        obtain ⟨p, hp, hpd⟩ := irr_ex n d (by omega) td d1
        exact ⟨p, hp, hpd.trans hd⟩
theorem Irr.prime {p a b : List Rat} (hp : Irr p) (ta : Trim a) (h : Df p (fun x => ev a x * ev b x)) : Df p (ev a) ∨ Df p (ev b) := by
  obtain ⟨g, hg⟩ := gcd_ex a.length p a (Nat.le_refl _) hp.t ta
  have gne := hg.ne hp.t hp.ne
  rcases hp.o g hg.t hg.a with h1 | h1
  · obtain ⟨u, v, e⟩ := hg.cop gne h1
    refine .inr (((Df.refl p).mulL (mulR u b)).add (h.mulL v) |>.congr fun x => ?_)
    have := e x
    rw [ev_mulR]
    have e2 : ev b x = ev b x * (ev u x * ev p x + ev v x * ev a x) := by rw [this]; grind
    rw [e2]; grind
  · obtain ⟨_, q, tq, nq, hl, e⟩ := hg.a.len hg.t hp.t hp.ne
    have q1 : q.length ≤ 1 := by omega
    obtain ⟨s, hs, rfl⟩ := len1 tq nq q1
    refine .inl (.trans ⟨[1 / s], fun x => ?_⟩ hg.b)
    rw [e, ev_mulP, ev_const, ev_const]
    have h2 : 1 / s * s = 1 := by rw [Rat.div_def, Rat.one_mul, Rat.inv_mul_cancel s hs]
    have : 1 / s * (s * ev g x) = (1 / s * s) * ev g x := by grind
    rw [this, h2]; grind
/-- the slope of a product -/
theorem slp_mul {c a b : List Rat} (h : ∀ x, ev c x = ev a x * ev b x) (x : Rat) : ev (slpR c) x = ev (slpR a) x * ev b x + ev a x * ev (slpR b) x := by
  have e : trim c = trim (mulR a b) := ev_inj (trim_trim _) (trim_trim _) fun x => by rw [ev_trim, ev_trim, ev_mulR]; exact h x
  rw [ev_slp, ev_slp, ev_slp, ← dv_trim c, e, dv_trim, dv_mulR]
theorem Irr.slope {p : List Rat} (hp : Irr p) : ¬ Df p (ev (slpR p)) := fun h => by
  have ne : slpR p ≠ [] := fun z => by have := slpR_len p; rw [z] at this; have := hp.g; simp at *; omega
  have := h.le hp.t hp.t.slp ne
  rw [slpR_len] at this
  have := hp.g
  omega
/-- no part twofold -/
def Sq (f : List Rat) : Prop := ∀ p, Irr p → ¬ Df (mulR p p) (ev f)
/-- a part of a curve and of its slope stands in it twice -/
theorem twice {p c : List Rat} (hp : Irr p) (h1 : Df p (ev c)) (h2 : Df p (ev (slpR c))) : Df (mulR p p) (ev c) := by
  obtain ⟨h, e⟩ := h1
  have e2 := slp_mul e
  have h3 : Df p (fun x => ev (slpR p) x * ev (trim h) x) := (h2.sub ((Df.refl p).mulL (slpR h))).congr fun x => by rw [e2, ev_trim]; grind
  rcases hp.prime hp.t.slp h3 with z | ⟨q, hq⟩
  · exact absurd z hp.slope
  · exact ⟨q, fun x => by have := hq x; rw [ev_trim] at this; rw [e, this, ev_mulR]; grind⟩
theorem twice_slope {p c : List Rat} (h : Df (mulR p p) (ev c)) : Df p (ev c) ∧ Df p (ev (slpR c)) := by
  obtain ⟨q, e⟩ := h
  have e' : ∀ x, ev c x = ev (mulR q p) x * ev p x := fun x => by rw [e, ev_mulR, ev_mulR]; grind
  refine ⟨⟨_, e'⟩, ?_⟩
  have e2 := slp_mul e'
  have e3 := slp_mul (c := mulR q p) (a := q) (b := p) fun x => ev_mulR _ _
  exact ⟨addR (addR (mulR (slpR q) p) (mulR q (slpR p))) (mulR q (slpR p)), fun x => by
    rw [e2, e3]; simp only [ev_addR, ev_mulR]; grind⟩
/-- no part twofold: nothing in common with the slope -/
theorem Sq.cop {f g : List Rat} (h : Sq f) (tf : Trim f) (hf : f ≠ []) (hg : Gcd g f (slpR f)) : g.length ≤ 1 := by
  refine Classical.byContradiction fun z => ?_
  obtain ⟨p, hp, hd⟩ := irr_ex g.length g (Nat.le_refl _) hg.t (by omega)
  exact h p hp (twice hp (hd.trans hg.a) (hd.trans hg.b))
theorem sq_of_cop {f g : List Rat} (hg : Gcd g f (slpR f)) (hn : g ≠ []) (h1 : g.length ≤ 1) : Sq f := fun p hp h => by
  obtain ⟨a, b⟩ := twice_slope h
  have := (hg.l.df a b).le hp.t hg.t hn
  have := hp.g
  omega
/-! ### how often -/
def pwL (p : List Rat) : Nat → List Rat
  | 0 => [1]
  | k + 1 => mulP (pwL p k) p
theorem pwL_ok {p : List Rat} (tp : Trim p) (hp : p ≠ []) : ∀ k, Trim (pwL p k) ∧ pwL p k ≠ []
  | 0 => ⟨Trim.last (l := []) (by decide), by simp [pwL]⟩
  | k + 1 => by
    obtain ⟨h1, h2⟩ := pwL_ok tp hp k
    refine ⟨Trim.mulP, fun z => ?_⟩
    have := mulP_len h1 tp h2 hp
    have e : mulP (pwL p k) p = [] := z
    rw [e] at this
    have := List.length_pos_iff.mpr h2
    have := List.length_pos_iff.mpr hp
    simp at *; omega
theorem ev_pw_succ {p : List Rat} {k : Nat} {x : Rat} : ev (pwL p (k + 1)) x = ev (pwL p k) x * ev p x := ev_mulP
theorem ev_pw_add {p : List Rat} {x : Rat} (i : Nat) : ∀ j, ev (pwL p (i + j)) x = ev (pwL p i) x * ev (pwL p j) x
  | 0 => by show ev (pwL p i) x = _ * ev [1] x; rw [ev_one]; grind
  | j + 1 => by rw [show i + (j + 1) = (i + j) + 1 by omega, ev_pw_succ, ev_pw_add i j, ev_pw_succ]; grind
theorem pw_slope {p : List Rat} : ∀ (k : Nat) (x : Rat), ev (slpR (pwL p (k + 1))) x = ((k + 1 : Nat) : Rat) * ev (pwL p k) x * ev (slpR p) x
  | 0, x => by
    have e := slp_mul (c := pwL p 1) (a := [1]) (b := p) (fun x => by rw [ev_pw_succ]; rfl) x
    have e1 : ev (slpR [1]) x = 0 := rfl
    rw [e, e1, ev_one]
    show _ = ((0 + 1 : Nat) : Rat) * ev [1] x * _
    rw [ev_one]
    have : ((0 + 1 : Nat) : Rat) = 1 := rfl
    rw [this]; grind
  | k + 1, x => by
    have e := slp_mul (c := pwL p (k + 1 + 1)) (a := pwL p (k + 1)) (b := p) (fun x => ev_pw_succ) x
    rw [e, pw_slope k x, ev_pw_succ]
    have : ((k + 1 + 1 : Nat) : Rat) = ((k + 1 : Nat) : Rat) + 1 := by push_cast; rfl
    rw [this]; grind
theorem mult_ex {p : List Rat} (hp : Irr p) : ∀ (n : Nat) (c : List Rat), c.length ≤ n → Trim c → c ≠ [] → ∃ e h, Trim h ∧ h ≠ [] ∧ (∀ x, ev c x = ev (pwL p e) x * ev h x) ∧ ¬ Df p (ev h)
  | n, c, hn, tc, hc => by
    by_cases h : Df p (ev c)
    · obtain ⟨_, q, tq, nq, hl, e⟩ := h.len hp.t tc hc
      have := hp.g
      cases n with
      | zero => have := List.length_pos_iff.mpr hc; omega
      | succ n =>
        obtain ⟨k, h2, t2, n2, e2, d2⟩ := mult_ex hp n q (by omega) tq nq
        exact ⟨k + 1, h2, t2, n2, fun x => by rw [e, ev_mulP, e2, ev_pw_succ]; grind, d2⟩
    · exact ⟨0, c, tc, hc, fun x => by show _ = ev [1] x * _; rw [ev_one]; grind, h⟩
/-- the slope of a power times what is left -/
theorem slope_pw {p h c : List Rat} {e : Nat} (hc : ∀ x, ev c x = ev (pwL p (e + 1)) x * ev h x) (x : Rat) : ev (slpR c) x = ev (pwL p e) x * (((e + 1 : Nat) : Rat) * ev (slpR p) x * ev h x + ev p x * ev (slpR h) x) := by
  rw [slp_mul hc, pw_slope, ev_pw_succ]; grind
section
variable {c f g : List Rat} (tc : Trim c) (hc : c ≠ []) (hg : Gcd g c (slpR c)) (hf : ∀ x, ev c x = ev f x * ev g x)
include tc hc hg hf
theorem plain_sq : Sq f := fun p hp ⟨s, hs⟩ => by
  obtain ⟨e, h, th, nh, eh, dh⟩ := mult_ex hp c.length c (Nat.le_refl _) tc hc
  cases e with
  | zero =>
    refine dh ⟨mulR (mulR s p) g, fun x => ?_⟩
    have := eh x
    have e0 : ev (pwL p 0) x = 1 := ev_one
    rw [e0] at this
    have h2 := hs x
    rw [ev_mulR] at h2
    simp only [ev_mulR]
    rw [show ev h x = ev c x by rw [this]; grind, hf, h2]; grind
  | succ e =>
    have d1 : Df (pwL p e) (ev c) := ⟨mulR p h, fun x => by rw [eh, ev_pw_succ, ev_mulR]; grind⟩
    have d2 : Df (pwL p e) (ev (slpR c)) := ⟨addR (sclR ((e + 1 : Nat) : Rat) (mulR (slpR p) h)) (mulR p (slpR h)), fun x => by
      rw [slope_pw eh]; simp only [ev_addR, ev_scl, ev_mulR]; grind⟩
    obtain ⟨t, ht⟩ := hg.l.df d1 d2
    obtain ⟨tw, nw⟩ := pwL_ok hp.t hp.ne (e + 1)
    refine dh ⟨mulR s t, fun x => ?_⟩
    have := cancel (b := h) (c := mulR (mulR s t) p) tw nw (fun x => by
      have h2 := hs x
      rw [ev_mulR] at h2
      rw [← eh, hf, h2, ht, ev_pw_succ]; simp only [ev_mulR]; grind) x
    rw [this]; simp only [ev_mulR]
theorem plain_all {p : List Rat} (hp : Irr p) (hpc : Df p (ev c)) (tf : Trim f) (tg : Trim g) (ng : g ≠ []) : Df p (ev f) := by
  refine Classical.byContradiction fun nf => ?_
  obtain ⟨e, h, th, nh, eh, dh⟩ := mult_ex hp c.length c (Nat.le_refl _) tc hc
  obtain ⟨i, k, tk, nk, ek, dk⟩ := mult_ex hp g.length g (Nat.le_refl _) tg ng
  obtain ⟨twi, nwi⟩ := pwL_ok hp.t hp.ne i
  by_cases hie : i < e
  · obtain ⟨j, rfl⟩ : ∃ j, e = i + (j + 1) := ⟨e - i - 1, by omega⟩
    have e1 := cancel (b := mulR (pwL p (j + 1)) h) (c := mulR f k) twi nwi (fun x => by
      have a1 := eh x
      have a2 := hf x
      rw [ek] at a2
      rw [ev_pw_add] at a1
      simp only [ev_mulR]
      grind)
    have d : Df p (fun x => ev f x * ev k x) := ⟨mulR (pwL p j) h, fun x => by
      have := e1 x
      simp only [ev_mulR, ev_pw_succ] at this ⊢
      grind⟩
    exact (hp.prime tf d).elim nf dk
  · have e1 : 1 ≤ e := Nat.one_le_iff_ne_zero.mpr fun z => by
      subst z
      refine dh (hpc.congr fun x => ?_)
      have := eh x
      have e0 : ev (pwL p 0) x = 1 := ev_one
      rw [e0] at this; grind
    obtain ⟨e, rfl⟩ : ∃ e', e = e' + 1 := ⟨e - 1, by omega⟩
    obtain ⟨j, rfl⟩ : ∃ j, i = (e + 1) + j := ⟨i - (e + 1), by omega⟩
    obtain ⟨w0, hw0⟩ := hg.b
    obtain ⟨tw, nw⟩ := pwL_ok hp.t hp.ne e
    have e3 := cancel (b := addR (sclR ((e + 1 : Nat) : Rat) (mulR (slpR p) h)) (mulR p (slpR h))) (c := mulR p (mulR w0 (mulR (pwL p j) k))) tw nw (fun x => by
      have a1 := slope_pw eh x
      have a2 := hw0 x
      rw [ek, ev_pw_add, ev_pw_succ] at a2
      simp only [ev_addR, ev_scl, ev_mulR]
      rw [a1] at a2
      grind)
    have hne : ((e + 1 : Nat) : Rat) ≠ 0 := fun z => by have := Rat.natCast_eq_zero_iff.mp z; omega
    have d : Df p (fun x => ev (slpR p) x * ev h x) := ⟨sclR (1 / ((e + 1 : Nat) : Rat)) (takP (mulR w0 (mulR (pwL p j) k)) (slpR h)), fun x => by
      have := e3 x
      simp only [ev_addR, ev_scl, ev_mulR, ev_takP] at this ⊢
      have h2 : 1 / ((e + 1 : Nat) : Rat) * ((e + 1 : Nat) : Rat) = 1 := by rw [Rat.div_def, Rat.one_mul, Rat.inv_mul_cancel _ hne]
      generalize 1 / ((e + 1 : Nat) : Rat) = s at *
      generalize ((e + 1 : Nat) : Rat) = m at *
      grind⟩
    exact (hp.prime hp.t.slp d).elim hp.slope dh
end
/-- what stands in no product of s and s stands in what is left -/
theorem Irr.past {p s k : List Rat} (hp : Irr p) (ts : Trim s) (ns : ¬ Df p (ev s)) (h : Df p (fun x => ev s x * ev s x * ev k x)) : Df p (ev k) := by
  have h1 : Df p (fun x => ev s x * ev (mulR s k) x) := h.congr fun x => by rw [ev_mulR]; grind
  rcases hp.prime ts h1 with z | z
  · exact absurd z ns
  · have h2 : Df p (fun x => ev s x * ev k x) := z.congr fun x => by rw [ev_mulR]
    rcases hp.prime ts h2 with z | z
    · exact absurd z ns
    · exact z
/-- a part of degree 1 at least has a part that nothing divides, and what is left has none of it if no part is twofold -/
theorem Sq.pick {s : List Rat} (ts : Trim s) (h1 : 1 < s.length) (hs : Sq s) : ∃ p q, Irr p ∧ Trim q ∧ q ≠ [] ∧ q.length < s.length ∧ (∀ x, ev s x = ev q x * ev p x) ∧ Sq q ∧ ¬ Df p (ev q) := by
  have ns : s ≠ [] := fun z => by rw [z] at h1; simp at h1
  obtain ⟨p, hp, hd⟩ := irr_ex s.length s (Nat.le_refl _) ts h1
  obtain ⟨_, q, tq, nq, hl, e⟩ := hd.len hp.t ts ns
  have := hp.g
  have e' : ∀ x, ev s x = ev q x * ev p x := fun x => by rw [e, ev_mulP]
  refine ⟨p, q, hp, tq, nq, by omega, e', fun r hr ⟨k, hk⟩ => hs r hr ⟨mulR k p, fun x => by rw [e', hk]; simp only [ev_mulR]; grind⟩, fun ⟨k, hk⟩ => hs p hp ⟨k, fun x => by rw [e', hk]; simp only [ev_mulR]; grind⟩⟩
theorem unit_df {s : List Rat} (ts : Trim s) (ns : s ≠ []) (h : s.length ≤ 1) (c : List Rat) : Df s (ev c) := by
  obtain ⟨a, ha, rfl⟩ := len1 ts ns h
  refine ⟨sclR (1 / a) c, fun x => ?_⟩
  have h2 : 1 / a * a = 1 := by rw [Rat.div_def, Rat.one_mul, Rat.inv_mul_cancel a ha]
  rw [ev_scl, ev_const]
  generalize 1 / a = b at *
  grind
theorem sq_twice : ∀ (n : Nat) (s c : List Rat), s.length ≤ n → Trim s → s ≠ [] → Sq s → (∀ p, Irr p → Df p (ev s) → Df (mulR p p) (ev c)) → Df (mulR s s) (ev c)
  | n, s, c, hn, ts, ns, hs, h => by
    by_cases h1 : s.length ≤ 1
    · obtain ⟨a, ha⟩ := unit_df ts ns h1 c
      obtain ⟨b, hb⟩ := unit_df ts ns h1 a
      exact ⟨b, fun x => by rw [ha, hb, ev_mulR]; grind⟩
    · obtain ⟨p, q, hp, tq, nq, hlt, e, sq, np⟩ := hs.pick ts (by omega)
      cases n with
      | zero => omega
      | succ n =>
        obtain ⟨k, hk⟩ := sq_twice n q c (by omega) tq nq sq fun r hr hd => h r hr (((hd.mulR p)).congr fun x => e x)
        obtain ⟨m, hm⟩ := h p hp ⟨q, e⟩
        have d1 : Df p (fun x => ev q x * ev q x * ev k x) := ⟨mulR m p, fun x => by
          have a := hk x; have b := hm x
          simp only [ev_mulR] at a b ⊢
          grind⟩
        obtain ⟨k1, hk1⟩ := hp.past tq np d1
        have e2 := cancel (b := mulR (mulR q q) k1) (c := mulR m p) hp.t hp.ne fun x => by
          have a := hk x; have b := hm x; have c := hk1 x
          simp only [ev_mulR] at a b ⊢
          grind
        have d2 : Df p (fun x => ev q x * ev q x * ev k1 x) := ⟨m, fun x => by
          have a := e2 x
          simp only [ev_mulR] at a
          exact a⟩
        obtain ⟨k2, hk2⟩ := hp.past tq np d2
        exact ⟨k2, fun x => by
          have a := hk x; have b := hk1 x; have c := hk2 x; have d := e x
          simp only [ev_mulR] at a ⊢
          grind⟩
theorem sq_once : ∀ (n : Nat) (s c : List Rat), s.length ≤ n → Trim s → s ≠ [] → Sq s → (∀ p, Irr p → Df p (ev s) → Df p (ev c)) → Df s (ev c)
  | n, s, c, hn, ts, ns, hs, h => by
    by_cases h1 : s.length ≤ 1
    · exact unit_df ts ns h1 c
    · obtain ⟨p, q, hp, tq, nq, hlt, e, sq, np⟩ := hs.pick ts (by omega)
      cases n with
      | zero => omega
      | succ n =>
        obtain ⟨k, hk⟩ := sq_once n q c (by omega) tq nq sq fun r hr hd => h r hr (((hd.mulR p)).congr fun x => e x)
        obtain ⟨m, hm⟩ := h p hp ⟨q, e⟩
        have d1 : Df p (fun x => ev q x * ev k x) := ⟨m, fun x => by have a := hk x; have b := hm x; grind⟩
        rcases hp.prime tq d1 with z | ⟨k1, hk1⟩
        · exact absurd z np
        · exact ⟨k1, fun x => by have a := hk x; have b := hk1 x; have d := e x; grind⟩
/-- what stands twice in root, root and rest stands in the root -/
theorem root_has : ∀ (n : Nat) (t root rest w : List Rat), t.length ≤ n → Trim t → t ≠ [] → Trim root → root ≠ [] → Sq rest → (∀ x, ev root x * ev root x * ev rest x = ev t x * ev t x * ev w x) → Df t (ev root)
  | n, t, root, rest, w, hn, tt, nt, tr, nr, hs, h => by
    by_cases h1 : t.length ≤ 1
    · exact unit_df tt nt h1 root
    · obtain ⟨p, hp, hd⟩ := irr_ex t.length t (Nat.le_refl _) tt (by omega)
      obtain ⟨_, t1, tt1, nt1, hl, e⟩ := hd.len hp.t tt nt
      have := hp.g
      have e' : ∀ x, ev t x = ev t1 x * ev p x := fun x => by rw [e, ev_mulP]
      cases n with
      | zero => omega
      | succ n =>
        have hpr : Df p (ev root) := Classical.byContradiction fun z => by
          obtain ⟨r1, hr1⟩ := hp.past (k := rest) tr z ⟨mulR (mulR t1 t) w, fun x => by
            have a := h x; have b := e' x
            simp only [ev_mulR]; grind⟩
          have e2 := cancel (b := mulR (mulR root root) r1) (c := mulR p (mulR (mulR t1 t1) w)) hp.t hp.ne fun x => by
            have a := h x; have b := e' x; have c := hr1 x
            simp only [ev_mulR]; grind
          obtain ⟨r2, hr2⟩ := hp.past (k := r1) tr z ⟨mulR (mulR t1 t1) w, fun x => by
            have a := e2 x
            simp only [ev_mulR] at a ⊢; grind⟩
          exact hs p hp ⟨r2, fun x => by have a := hr1 x; have b := hr2 x; rw [ev_mulR]; grind⟩
        obtain ⟨_, q, tq, nq, _, eq⟩ := hpr.len hp.t tr nr
        have eq' : ∀ x, ev root x = ev q x * ev p x := fun x => by rw [eq, ev_mulP]
        have e3 := cancel (b := mulR p (mulR (mulR q q) rest)) (c := mulR p (mulR (mulR t1 t1) w)) hp.t hp.ne fun x => by
          have a := h x; have b := e' x; have c := eq' x
          simp only [ev_mulR]; grind
        have e4 := cancel (b := mulR (mulR q q) rest) (c := mulR (mulR t1 t1) w) hp.t hp.ne fun x => by
          have a := e3 x
          simp only [ev_mulR] at a ⊢; exact a
        obtain ⟨k, hk⟩ := root_has n t1 q rest w (by omega) tt1 nt1 tq nq hs fun x => by
          have a := e4 x
          simp only [ev_mulR] at a; exact a
        exact ⟨k, fun x => by have a := hk x; have b := e' x; have c := eq' x; grind⟩
/-! ### last number 1 -/
def mon (l : List Rat) : List Rat := if l = [] then [] else sclP l (1 / ld l)
theorem mon_ok {l : List Rat} (tl : Trim l) (nl : l ≠ []) : Trim (mon l) ∧ mon l ≠ [] ∧ ld (mon l) = 1 ∧ (mon l).length = l.length ∧ (∀ x, ev (mon l) x = ev l x * (1 / ld l)) ∧ Df (mon l) (ev l) ∧ Df l (ev (mon l)) := by
  have hd : ld l ≠ 0 := tl.top nl
  have e : mon l = sclP l (1 / ld l) := if_neg nl
  have h2 : 1 / ld l * ld l = 1 := by rw [Rat.div_def, Rat.one_mul, Rat.inv_mul_cancel _ hd]
  have ht : Trim (sclR (1 / ld l) l) := .of_top (by
    have : (sclR (1 / ld l) l).length = l.length := List.length_map _
    rw [this, co_scl]
    intro z
    have : ld l * (1 / ld l) = 0 := z
    grind)
  have e2 : mon l = sclR (1 / ld l) l := e.trans ht
  have hl : (mon l).length = l.length := by rw [e2]; exact List.length_map _
  have ee : ∀ x, ev (mon l) x = ev l x * (1 / ld l) := fun x => by rw [e, ev_sclP]
  refine ⟨by rw [e]; exact .sclP, fun z => nl (List.length_eq_zero_iff.mp (by rw [← hl, z]; rfl)), ?_, hl, ee, ⟨[ld l], fun x => ?_⟩, ⟨[1 / ld l], fun x => ?_⟩⟩
  · show co (mon l) ((mon l).length - 1) = 1
    rw [hl, e2, co_scl]
    have : co l (l.length - 1) = ld l := rfl
    rw [this]; grind
  · rw [ee, ev_const]
    generalize 1 / ld l = s at *
    grind
  · rw [ee, ev_const]; grind
theorem mon_eq {a b : List Rat} (ta : Trim a) (tb : Trim b) (na : a ≠ []) (nb : b ≠ []) (ha : ld a = 1) (hb : ld b = 1) (h1 : Df a (ev b)) (h2 : Df b (ev a)) : a = b := by
  have l1 := h1.le ta tb nb
  have l2 := h2.le tb ta na
  obtain ⟨_, q, tq, nq, hl, e⟩ := h1.len ta tb nb
  obtain ⟨s, hs, rfl⟩ := len1 tq nq (by omega)
  have e2 : b = sclP a s := ev_inj tb .sclP fun x => by rw [e, ev_mulP, ev_const, ev_sclP]; grind
  have e3 : ld b = ld a * s := by
    show co b (b.length - 1) = co a (a.length - 1) * s
    rw [e2]
    unfold sclP
    rw [co_trim, co_scl]
    have : (trim (sclR s a)).length = a.length := by have h := e2; unfold sclP at h; rw [← h]; omega
    rw [this]
  rw [ha, hb] at e3
  have : s = 1 := by grind
  subst this
  exact ev_inj ta tb fun x => by rw [e2, ev_sclP]; grind
theorem gcd_uniq {g g' a b a' b' : List Rat} (h : Gcd g a b) (h' : Gcd g' a' b') (n : g ≠ []) (n' : g' ≠ []) (m : ld g = 1) (m' : ld g' = 1) (h1 : Df g (ev a')) (h2 : Df g (ev b')) (h3 : Df g' (ev a)) (h4 : Df g' (ev b)) : g = g' :=
  mon_eq h.t h'.t n n' m m' (h'.l.df h1 h2) (h.l.df h3 h4)
theorem gcd_one {g a b : List Rat} (h : Gcd g a b) (n : g ≠ []) (m : ld g = 1) (h1 : g.length ≤ 1) : g = [1] := by
  obtain ⟨a, _, rfl⟩ := len1 h.t n h1
  have : a = 1 := m
  rw [this]
/-- what is left of both has nothing in common -/
theorem gcd_left {g a b a1 b1 : List Rat} (h : Gcd g a b) (n : g ≠ []) (ea : ∀ x, ev a x = ev a1 x * ev g x) (eb : ∀ x, ev b x = ev b1 x * ev g x) : Cop a1 b1 := by
  obtain ⟨u, v, e⟩ := h.l
  refine ⟨u, v, fun x => ?_⟩
  have := cancel (b := addR (mulR u a1) (mulR v b1)) (c := [1]) h.t n (fun x => by
    have := e x
    rw [ea, eb] at this
    simp only [ev_addR, ev_mulR, ev_one]; grind) x
  simp only [ev_addR, ev_mulR, ev_one] at this
  exact this
theorem Cop.one {g a b : List Rat} (h : Cop a b) (hg : Gcd g a b) (n : g ≠ []) (m : ld g = 1) : g = [1] := by
  obtain ⟨u, v, e⟩ := h
  have d : Df g (ev [1]) := ((hg.a.mulL u).add (hg.b.mulL v)).congr fun x => by rw [ev_one]; exact (e x).symm
  exact gcd_one hg n m (d.le hg.t (Trim.last (l := []) (by decide)) (by simp))
end G

set_option linter.all false
set_option maxHeartbeats 1000000
/-! M9: how great a part's numbers are (Gauss). -/
namespace G
/-! ### whole numbers -/
def ci (l : List Int) (k : Nat) : Int := l.getD k 0
def iA : List Int → List Int → List Int
  | [], m => m
  | l, [] => l
  | a :: l, b :: m => (a + b) :: iA l m
def iS (c : Int) (l : List Int) : List Int := l.map fun a => c * a
def iM : List Int → List Int → List Int
  | [], _ => []
  | a :: l, m => iA (iS a m) (0 :: iM l m)
theorem ci_nil (k : Nat) : ci [] k = 0 := by unfold ci; rfl
theorem ci_zero {a : Int} {l : List Int} : ci (a :: l) 0 = a := rfl
theorem ci_succ {a : Int} {l : List Int} {k : Nat} : ci (a :: l) (k + 1) = ci l k := rfl
theorem ci_iA : ∀ (l m : List Int) (k : Nat), ci (iA l m) k = ci l k + ci m k
  | [], m, k => by rw [ci_nil]; show ci m k = _; omega
  | a :: l, [], k => by rw [ci_nil]; show ci (a :: l) k = _; omega
  | a :: l, b :: m, 0 => rfl
  | a :: l, b :: m, k + 1 => ci_iA l m k
theorem ci_iS (c : Int) : ∀ (l : List Int) (k : Nat), ci (iS c l) k = c * ci l k
  | [], k => by show ci [] k = _; rw [ci_nil]; omega
  | a :: l, 0 => rfl
  | a :: l, k + 1 => ci_iS c l k
theorem ci_iM0 {a : Int} {l m : List Int} : ci (iM (a :: l) m) 0 = a * ci m 0 := by
  show ci (iA (iS a m) (0 :: iM l m)) 0 = _
  rw [ci_iA, ci_iS, ci_zero]; omega
theorem ci_iMs {a : Int} {l m : List Int} {k : Nat} : ci (iM (a :: l) m) (k + 1) = a * ci m (k + 1) + ci (iM l m) k := by
  show ci (iA (iS a m) (0 :: iM l m)) (k + 1) = _
  rw [ci_iA, ci_iS, ci_succ]
theorem ci_iMr0 {b : Int} {m : List Int} : ∀ l : List Int, ci (iM l (b :: m)) 0 = ci l 0 * b
  | [] => by show ci [] 0 = ci [] 0 * b; rw [ci_nil]; omega
  | a :: l => by rw [ci_iM0]; rfl
theorem ci_iMr {b : Int} {m : List Int} : ∀ (l : List Int) (k : Nat), ci (iM l (b :: m)) (k + 1) = ci l (k + 1) * b + ci (iM l m) k
  | [], k => by show ci [] _ = ci [] _ * b + ci [] k; rw [ci_nil, ci_nil]; omega
  | a :: l, 0 => by
    rw [ci_iMs, ci_iMr0, ci_succ, ci_succ, ci_iM0]; omega
  | a :: l, k + 1 => by
    rw [ci_iMs, ci_iMr l k, ci_succ, ci_succ, ci_iMs]; omega
def dvL (p : Int) (l : List Int) : Prop := ∀ k, p ∣ ci l k
/-- whole numbers that divide no product but by a factor -/
def Prm (p : Int) : Prop := 1 < p ∧ ∀ a b : Int, p ∣ a * b → p ∣ a ∨ p ∣ b
theorem gauss {p : Int} (hp : Prm p) : ∀ (n : Nat) (l m : List Int), l.length + m.length ≤ n → dvL p (iM l m) → dvL p l ∨ dvL p m
  | n, [], m, _, _ => .inl fun k => by rw [ci_nil]; exact Int.dvd_zero p
  | n, a :: l, [], _, _ => .inr fun k => by rw [ci_nil]; exact Int.dvd_zero p
  | 0, a :: l, b :: m, h, _ => by simp at h
  | n + 1, a :: l, b :: m, hn, h => by
    have h0 := h 0
    rw [ci_iM0] at h0
    rcases hp.2 a b h0 with ha | hb
    · have h1 : dvL p (iM l (b :: m)) := fun k => by
        have := h (k + 1)
        rw [ci_iMs] at this
        have d := Int.dvd_sub this (Int.dvd_mul_of_dvd_left (c := ci (b :: m) (k + 1)) ha)
        have e : a * ci (b :: m) (k + 1) + ci (iM l (b :: m)) k - a * ci (b :: m) (k + 1) = ci (iM l (b :: m)) k := by omega
        rw [e] at d; exact d
      rcases gauss hp n l (b :: m) (by simp at *; omega) h1 with z | z
      · exact .inl fun k => by
          cases k with
          | zero => exact ha
          | succ k => exact z k
      · exact .inr z
    · have h1 : dvL p (iM (a :: l) m) := fun k => by
        have := h (k + 1)
        rw [ci_iMr] at this
        have hb2 : p ∣ ci (a :: l) (k + 1) * b := by
          obtain ⟨t, ht⟩ := hb
          exact ⟨ci (a :: l) (k + 1) * t, by rw [ht]; grind⟩
        have d := Int.dvd_sub this hb2
        have e : ci (a :: l) (k + 1) * b + ci (iM (a :: l) m) k - ci (a :: l) (k + 1) * b = ci (iM (a :: l) m) k := by omega
        rw [e] at d; exact d
      rcases gauss hp n (a :: l) m (by simp at *; omega) h1 with z | z
      · exact .inl z
      · exact .inr fun k => by
          cases k with
          | zero => exact hb
          | succ k => exact z k
theorem prm_ex : ∀ (n D : Nat), D ≤ n → 1 < D → ∃ p : Nat, Prm (p : Int) ∧ p ∣ D
  | n, D, hn, h1 => by
    by_cases h : ∃ d, d ∣ D ∧ 1 < d ∧ d < D
    · obtain ⟨d, hd, d1, d2⟩ := h
      cases n with
      | zero => omega
      | succ n =>
        obtain ⟨p, hp, hpd⟩ := prm_ex n d (by omega) d1
        exact ⟨p, hp, Nat.dvd_trans hpd hd⟩
    · refine ⟨D, ⟨by omega, fun a b hab => ?_⟩, Nat.dvd_refl D⟩
      have hab : D ∣ a.natAbs * b.natAbs := by
        have := Int.natAbs_dvd_natAbs.mpr hab
        rw [Int.natAbs_mul, Int.natAbs_natCast] at this; exact this
      have hg : Nat.gcd D a.natAbs ∣ D := Nat.gcd_dvd_left _ _
      have hgle := Nat.le_of_dvd (by omega) hg
      have hgp : 0 < Nat.gcd D a.natAbs := Nat.gcd_pos_of_pos_left _ (by omega)
      by_cases hc : Nat.gcd D a.natAbs = 1
      · right
        exact Int.natAbs_dvd_natAbs.mp (by rw [Int.natAbs_natCast]; exact Nat.Coprime.dvd_of_dvd_mul_left hc hab)
      · left
        have : Nat.gcd D a.natAbs = D := Classical.byContradiction fun z => h ⟨_, hg, by omega, by omega⟩
        exact Int.natAbs_dvd_natAbs.mp (by rw [Int.natAbs_natCast]; exact Nat.gcd_eq_left_iff_dvd.mp this)
/-- a number in a product of curves goes over to both -/
theorem content : ∀ (n D : Nat) (A B C : List Int), D ≤ n → 0 < D → (∀ k, ci (iM A B) k = (D : Int) * ci C k) → ∃ (D1 D2 : Nat) (A1 B1 : List Int), D1 * D2 = D ∧ 0 < D1 ∧ 0 < D2 ∧ (∀ k, ci A k = (D1 : Int) * ci A1 k) ∧ (∀ k, ci B k = (D2 : Int) * ci B1 k) ∧ A1.length = A.length ∧ B1.length = B.length ∧ ∀ k, ci (iM A1 B1) k = ci C k
  | n, D, A, B, C, hn, hD, h => by
    by_cases h1 : D = 1
    · subst h1
      exact ⟨1, 1, A, B, rfl, by omega, by omega, fun k => by omega, fun k => by omega, rfl, rfl, fun k => by have := h k; omega⟩
    · obtain ⟨p, hp, D', hpd⟩ := prm_ex D D (Nat.le_refl _) (by omega)
      have hp1 : 1 < p := by have := hp.1; omega
      have hD' : 0 < D' := Nat.pos_of_ne_zero fun z => by rw [z] at hpd; omega
      have hlt : D' < D := by rw [hpd]; have := Nat.mul_lt_mul_of_pos_right hp1 hD'; omega
      have dv : dvL (p : Int) (iM A B) := fun k => by rw [h, hpd, Int.natCast_mul, Int.mul_assoc]; exact Int.dvd_mul_right _ _
      have dm : ∀ l : List Int, dvL (p : Int) l → ∃ m : List Int, m.length = l.length ∧ ∀ k, ci l k = (p : Int) * ci m k := fun l hl => by
        refine ⟨l.map fun a => a / (p : Int), List.length_map _, fun k => ?_⟩
        have hk := hl k
        unfold ci at hk ⊢
        rw [List.getD_eq_getElem?_getD] at hk ⊢
        rw [List.getD_eq_getElem?_getD, List.getElem?_map]
        cases e : l[k]? with
        | none => simp
        | some a =>
          rw [e] at hk
          have hk : (p : Int) ∣ a := hk
          show a = (p : Int) * (a / (p : Int))
          rw [Int.mul_ediv_cancel' hk]
      have pne : (p : Int) ≠ 0 := by omega
      cases n with
      | zero => omega
      | succ n =>
        rcases gauss hp (A.length + B.length) A B (Nat.le_refl _) dv with z | z
        · obtain ⟨A', la, ea⟩ := dm A z
          have e2 : ∀ k, ci (iM A' B) k = (D' : Int) * ci C k := fun k => by
            have : ∀ (X Y : List Int), (∀ k, ci X k = (p : Int) * ci Y k) → X.length = Y.length → ∀ (B : List Int) k, ci (iM X B) k = (p : Int) * ci (iM Y B) k := by
              intro X
              induction X with
              | nil =>
                intro Y _ hl B k
                cases Y with
                | nil => show ci [] k = _ * ci [] k; rw [ci_nil]; omega
                | cons b Y => simp at hl
              | cons a X ih =>
                intro Y hxy hl B k
                cases Y with
                | nil => simp at hl
                | cons b Y =>
                  have ab : a = (p : Int) * b := hxy 0
                  have ih := ih Y (fun k => hxy (k + 1)) (by simpa using hl) B
                  cases k with
                  | zero => rw [ci_iM0, ci_iM0, ab, Int.mul_assoc]
                  | succ k => rw [ci_iMs, ci_iMs, ih, ab, Int.mul_add, Int.mul_assoc]
            have a := this A A' ea la.symm B k
            rw [h, hpd, Int.natCast_mul, Int.mul_assoc] at a
            exact (Int.eq_of_mul_eq_mul_left pne a).symm
          obtain ⟨D1, D2, A1, B1, g1, g2, g3, g4, g5, g6, g7, g8⟩ := content n D' A' B C (by omega) hD' e2
          exact ⟨p * D1, D2, A1, B1, by rw [Nat.mul_assoc, g1, hpd], Nat.mul_pos (by omega) g2, g3, fun k => by rw [ea, g4, Int.natCast_mul, Int.mul_assoc], g5, by omega, g7, g8⟩
        · obtain ⟨B', lb, eb⟩ := dm B z
          have e2 : ∀ k, ci (iM A B') k = (D' : Int) * ci C k := fun k => by
            have : ∀ (X : List Int) (k : Nat), ci (iM X B) k = (p : Int) * ci (iM X B') k := by
              intro X
              induction X with
              | nil => intro k; show ci [] k = _ * ci [] k; rw [ci_nil]; omega
              | cons a X ih =>
                intro k
                cases k with
                | zero => rw [ci_iM0, ci_iM0, eb, Int.mul_left_comm]
                | succ k => rw [ci_iMs, ci_iMs, ih, eb, Int.mul_add, Int.mul_left_comm]
            have a := this A k
            rw [h, hpd, Int.natCast_mul, Int.mul_assoc] at a
            exact (Int.eq_of_mul_eq_mul_left pne a).symm
          obtain ⟨D1, D2, A1, B1, g1, g2, g3, g4, g5, g6, g7, g8⟩ := content n D' A B' C (by omega) hD' e2
          exact ⟨D1, p * D2, A1, B1, by rw [Nat.mul_left_comm, g1, hpd], g2, Nat.mul_pos (by omega) g3, g4, fun k => by rw [eb, g5, Int.natCast_mul, Int.mul_assoc], g6, by omega, g8⟩
/-! ### worths at whole places, and what they tell of the numbers -/
def eI : List Int → Int → Int
  | [], _ => 0
  | a :: l, x => a + x * eI l x
def qI (s : Int) : List Int → List Int
  | [] => []
  | [_] => []
  | _ :: b :: l => eI (b :: l) s :: qI s (b :: l)
theorem qI_len (s : Int) : ∀ l : List Int, (qI s l).length = l.length - 1
  | [] => rfl
  | [_] => rfl
  | a :: b :: l => by
    show (qI s (b :: l)).length + 1 = _
    rw [qI_len s (b :: l)]; simp
theorem qI_ev (s x : Int) : ∀ l : List Int, eI l x = eI l s + (x - s) * eI (qI s l) x
  | [] => by show (0 : Int) = 0 + _ * 0; omega
  | [a] => by show a + x * 0 = a + s * 0 + _ * 0; omega
  | a :: b :: l => by
    have ih := qI_ev s x (b :: l)
    show a + x * eI (b :: l) x = a + s * eI (b :: l) s + (x - s) * (eI (b :: l) s + x * eI (qI s (b :: l)) x)
    rw [ih]; grind
theorem qI_ci (s : Int) : ∀ (l : List Int) (k : Nat), ci l k = (match k with | 0 => eI l s | k + 1 => ci (qI s l) k) - s * ci (qI s l) k
  | [], 0 => by show (0 : Int) = 0 - s * 0; omega
  | [], k + 1 => by show (0 : Int) = 0 - s * 0; omega
  | [a], 0 => by show a = a + s * 0 - s * 0; omega
  | [a], k + 1 => by show (0 : Int) = 0 - s * 0; omega
  | a :: b :: l, 0 => by show a = a + s * eI (b :: l) s - s * eI (b :: l) s; omega
  | a :: b :: l, k + 1 => by
    have := qI_ci s (b :: l) k
    rw [ci_succ, this]
    cases k with
    | zero => rfl
    | succ k => rfl
theorem height (V : Nat) : ∀ (S : List Int) (g : List Int), S.Nodup → (∀ s ∈ S, 0 ≤ s ∧ s ≤ 24) → g.length ≤ S.length → (∀ s ∈ S, (eI g s).natAbs ≤ V) → ∀ k, (ci g k).natAbs ≤ V * 64 ^ S.length
  | [], g, _, _, hl, _, k => by
    have : g = [] := List.length_eq_zero_iff.mp (by simpa using hl)
    rw [this, ci_nil]; exact Nat.zero_le _
  | s :: S, g, nd, hs, hl, hv, k => by
    obtain ⟨nd1, nd2⟩ := List.nodup_cons.mp nd
    have ih := height (2 * V) S (qI s g) nd2 (fun t ht => hs t (List.mem_cons_of_mem _ ht)) (by rw [qI_len]; simp at hl; omega) (fun t ht => by
      have e := qI_ev s t g
      have h1 := hv s List.mem_cons_self
      have h2 := hv t (List.mem_cons_of_mem _ ht)
      have hne : t ≠ s := fun z => nd1 (z ▸ ht)
      have : (eI (qI s g) t).natAbs ≤ ((t - s) * eI (qI s g) t).natAbs := by
        rw [Int.natAbs_mul]
        exact Nat.le_mul_of_pos_left _ (by omega)
      omega)
    obtain ⟨s0, s1⟩ := hs s List.mem_cons_self
    have hv0 := hv s List.mem_cons_self
    have e := qI_ci s g k
    have hk := ih k
    have m1 : (s * ci (qI s g) k).natAbs ≤ 24 * (2 * V * 64 ^ S.length) := by
      rw [Int.natAbs_mul]
      exact Nat.mul_le_mul (by omega) hk
    have hp : 1 ≤ 64 ^ S.length := Nat.pow_pos (by decide)
    have hvp : V ≤ V * 64 ^ S.length := Nat.le_mul_of_pos_right _ hp
    have e64 : V * 64 ^ (s :: S).length = 64 * (V * 64 ^ S.length) := by
      rw [List.length_cons, Nat.pow_succ]; grind
    have e2 : 2 * V * 64 ^ S.length = 2 * (V * 64 ^ S.length) := by grind
    rw [e2] at m1 hk
    rw [e64]
    cases k with
    | zero =>
      have e : ci g 0 = eI g s - s * ci (qI s g) 0 := e
      omega
    | succ k =>
      have e : ci g (k + 1) = ci (qI s g) k - s * ci (qI s g) (k + 1) := e
      have hk2 := ih k
      rw [e2] at hk2
      omega
end G

set_option linter.all false
set_option maxHeartbeats 1000000
/-! M10: sizes, over one whole number. -/
namespace G
/-- over one whole number, all of so many bits -/
def Cw (M : Nat) (l : List Rat) : Prop := ∃ D : Int, D ≠ 0 ∧ D.natAbs < 2 ^ M ∧ Cz D M l
theorem Cz.mono {D : Int} {M N : Nat} {l : List Rat} (h : Cz D M l) (e : M ≤ N) : Cz D N l := fun k => by
  obtain ⟨n, h1, h2⟩ := h k; exact ⟨n, h1, pow_up h2 e⟩
theorem Cw.mono {M N : Nat} {l : List Rat} (h : Cw M l) (e : M ≤ N) : Cw N l := by
  obtain ⟨D, h0, h1, h2⟩ := h
  exact ⟨D, h0, pow_up h1 e, h2.mono e⟩
theorem Cw.pos {M : Nat} {l : List Rat} (h : Cw M l) : 0 < M := Nat.pos_of_ne_zero fun z => by
  obtain ⟨D, h0, h1, _⟩ := h
  rw [z] at h1
  have : D.natAbs < 1 := h1
  omega
theorem Cw.bl {M : Nat} {l : List Rat} (h : Cw M l) : ∀ a ∈ l, Bd M a := fun a ha => by
  have hp := h.pos
  obtain ⟨D, h0, h1, h2⟩ := h
  obtain ⟨k, rfl⟩ := mem_co ha
  obtain ⟨n, e, hn⟩ := h2 k
  have e2 : co l k = Rat.divInt n D := by
    have := intCast_ne h0
    rw [Rat.divInt_eq_div]; grind
  rw [e2]
  exact .divInt hp hn h1
theorem Cw.of {K : Nat} {l : List Rat} (h : ∀ a ∈ l, Bd K a) : Cw (l.length * K + 1) l := by
  obtain ⟨D, h0, h1, h2⟩ := cm_of l h
  exact ⟨D, by omega, by rw [Int.natAbs_natCast]; exact h1, fun k => by
    obtain ⟨n, e, b⟩ := h2.co k
    exact ⟨n, by rw [Rat.intCast_natCast]; exact e, b⟩⟩
theorem Cw.nil {M : Nat} (h : 0 < M) : Cw M [] := ⟨1, by decide, Nat.one_lt_two_pow (by omega), fun k => ⟨0, by show co [] k * _ = _; rw [co_out (by simp)]; grind, Nat.two_pow_pos M⟩⟩
theorem Cz.list {D : Int} {M : Nat} {l : List Rat} (h : Cz D M l) : ∃ C : List Int, C.length = l.length ∧ (∀ k, co l k * (D : Rat) = ((ci C k : Int) : Rat)) ∧ ∀ k, (ci C k).natAbs < 2 ^ M := by
  refine ⟨(List.range l.length).map fun k => Classical.choose (h k), by simp, ?_⟩
  have e : ∀ k, ci ((List.range l.length).map fun k => Classical.choose (h k)) k = if k < l.length then Classical.choose (h k) else 0 := fun k => by
    unfold ci
    rw [List.getD_eq_getElem?_getD, List.getElem?_map]
    split
    · rename_i hk
      rw [List.getElem?_range hk]; rfl
    · rename_i hk
      rw [List.getElem?_eq_none (by rw [List.length_range]; omega)]; rfl
  refine ⟨fun k => ?_, fun k => ?_⟩ <;> rw [e]
  · split
    · exact (Classical.choose_spec (h k)).1
    · rw [co_out (by omega)]; rw [Rat.zero_mul]; rfl
  · split
    · exact (Classical.choose_spec (h k)).2
    · exact Nat.two_pow_pos M
theorem co_mulR0 {a : Rat} {l m : List Rat} : co (mulR (a :: l) m) 0 = a * co m 0 := by
  show co (addR (sclR a m) (0 :: mulR l m)) 0 = _
  rw [addR_co, co_scl]
  have : co (0 :: mulR l m) 0 = 0 := rfl
  rw [this]; grind
theorem co_mulRs {a : Rat} {l m : List Rat} {k : Nat} : co (mulR (a :: l) m) (k + 1) = a * co m (k + 1) + co (mulR l m) k := by
  show co (addR (sclR a m) (0 :: mulR l m)) (k + 1) = _
  rw [addR_co, co_scl]
  have : co (0 :: mulR l m) (k + 1) = co (mulR l m) k := rfl
  rw [this]; grind
theorem mul_ci {D E : Rat} : ∀ (l m : List Rat) (A B : List Int), A.length = l.length → (∀ k, co l k * D = ((ci A k : Int) : Rat)) → (∀ k, co m k * E = ((ci B k : Int) : Rat)) → ∀ k, co (mulR l m) k * (D * E) = ((ci (iM A B) k : Int) : Rat)
  | [], m, A, B, hl, _, _, k => by
    have : A = [] := List.length_eq_zero_iff.mp hl
    subst this
    show co [] k * _ = ((ci [] k : Int) : Rat)
    rw [ci_nil, co_out (by simp), Rat.zero_mul]; rfl
  | a :: l, m, [], B, hl, _, _, k => by simp at hl
  | a :: l, m, x :: A, B, hl, h1, h2, k => by
    have ha : a * D = (x : Rat) := h1 0
    cases k with
    | zero =>
      have e := h2 0
      rw [co_mulR0, ci_iM0, Rat.intCast_mul, ← ha, ← e]; grind
    | succ k =>
      have ih := mul_ci l m A B (by simpa using hl) (fun k => h1 (k + 1)) h2 k
      have e := h2 (k + 1)
      rw [co_mulRs, ci_iMs, Rat.intCast_add, Rat.intCast_mul, ← ha, ← e, ← ih]; grind
theorem iM_bd {V W : Nat} : ∀ (l m : List Int), (∀ k, (ci l k).natAbs ≤ V) → (∀ k, (ci m k).natAbs ≤ W) → ∀ k, (ci (iM l m) k).natAbs ≤ l.length * (V * W)
  | [], m, _, _, k => by show (ci [] k).natAbs ≤ _; rw [ci_nil]; exact Nat.zero_le _
  | a :: l, m, h1, h2, k => by
    have ha : a.natAbs ≤ V := h1 0
    have ih := iM_bd l m (fun k => h1 (k + 1)) h2
    rw [List.length_cons, Nat.succ_mul]
    cases k with
    | zero =>
      rw [ci_iM0, Int.natAbs_mul]
      have := Nat.mul_le_mul ha (h2 0)
      omega
    | succ k =>
      rw [ci_iMs]
      have e1 : (a * ci m (k + 1)).natAbs ≤ V * W := by rw [Int.natAbs_mul]; exact Nat.mul_le_mul ha (h2 _)
      have e2 := ih k
      omega
theorem Cw.mul {A B : Nat} {l m : List Rat} (h1 : Cw A l) (h2 : Cw B m) (hl : l.length ≤ 16) : Cw (A + B + 4) (mulP l m) := by
  obtain ⟨D, d0, d1, d2⟩ := h1
  obtain ⟨E, e0, e1, e2⟩ := h2
  obtain ⟨X, lx, x1, x2⟩ := d2.list
  obtain ⟨Y, ly, y1, y2⟩ := e2.list
  refine ⟨D * E, Int.mul_ne_zero d0 e0, by rw [Int.natAbs_mul]; exact pow_up (lt_mul d1 e1) (by omega), fun k => ⟨ci (iM X Y) k, ?_, ?_⟩⟩
  · unfold mulP
    rw [co_trim, Rat.intCast_mul]
    exact mul_ci l m X Y lx x1 y1 k
  · have hb := iM_bd (V := 2 ^ A - 1) (W := 2 ^ B - 1) X Y (fun k => by have := x2 k; omega) (fun k => by have := y2 k; omega) k
    have hpA := Nat.two_pow_pos A
    have hpB := Nat.two_pow_pos B
    have h3 : (2 ^ A - 1) * (2 ^ B - 1) < 2 ^ A * 2 ^ B := Nat.mul_lt_mul_of_lt_of_le (by omega) (by omega) (by omega)
    have h4 : X.length * ((2 ^ A - 1) * (2 ^ B - 1)) ≤ 16 * ((2 ^ A - 1) * (2 ^ B - 1)) := Nat.mul_le_mul_right _ (by omega)
    have h5 : 2 ^ (A + B + 4) = 16 * (2 ^ A * 2 ^ B) := by rw [Nat.pow_add, Nat.pow_add]; omega
    rw [h5]; omega
theorem Cw.scl {A s : Nat} {l : List Rat} {c : Rat} (h : Cw A l) (bc : Bd s c) : Cw (A + s) (sclP l c) := by
  obtain ⟨D, d0, d1, d2⟩ := h
  refine ⟨D * c.den, Int.mul_ne_zero d0 (den_ne c), by rw [Int.natAbs_mul]; exact lt_mul d1 bc.2, fun k => ?_⟩
  obtain ⟨n, e, hn⟩ := d2 k
  refine ⟨n * c.num, ?_, by rw [Int.natAbs_mul]; exact lt_mul hn bc.1⟩
  unfold sclP
  rw [co_trim, co_scl, Rat.intCast_mul, Rat.intCast_mul, ← e, Rat.intCast_natCast, ← num_den c]; grind
theorem co_slp {l : List Rat} {k : Nat} : co (slpR l) k = co l (k + 1) * ((k + 1 : Nat) : Rat) := by
  by_cases h : k < l.length - 1
  · unfold slpR
    have e : co ((List.range (l.length - 1)).map fun k => co l (k + 1) * ((k + 1 : Nat) : Rat)) k = co l (k + 1) * ((k + 1 : Nat) : Rat) := by
      rw [show co ((List.range (l.length - 1)).map fun k => co l (k + 1) * ((k + 1 : Nat) : Rat)) k = ((List.range (l.length - 1)).map fun k => co l (k + 1) * ((k + 1 : Nat) : Rat)).getD k 0 from rfl]
      rw [List.getD_eq_getElem?_getD, List.getElem?_map, List.getElem?_range h]; rfl
    exact e
  · rw [co_out (by rw [slpR_len]; omega), co_out (l := l) (by omega), Rat.zero_mul]
theorem Cw.slp {A : Nat} {l : List Rat} (h : Cw A l) (hl : l.length ≤ 16) : Cw (A + 4) (slpR l) := by
  obtain ⟨D, d0, d1, d2⟩ := h
  refine ⟨D, d0, pow_up d1 (by omega), fun k => ?_⟩
  by_cases hk : k + 1 < l.length
  · obtain ⟨n, e, hn⟩ := d2 (k + 1)
    refine ⟨n * ((k + 1 : Nat) : Int), ?_, by rw [Int.natAbs_mul, Int.natAbs_natCast]; exact lt_mul hn (show k + 1 < 16 by omega)⟩
    rw [co_slp, Rat.intCast_mul, ← e, Rat.intCast_natCast]; grind
  · exact ⟨0, by rw [co_slp, co_out (by omega), Rat.zero_mul, Rat.zero_mul]; rfl, Nat.two_pow_pos _⟩
theorem Cw.mon {A : Nat} {l : List Rat} (h : Cw A l) (tl : Trim l) (nl : l ≠ []) : Cw A (mon l) := by
  obtain ⟨D, d0, d1, d2⟩ := h
  have hd : ld l ≠ 0 := tl.top nl
  obtain ⟨b, eb, hb⟩ := d2 (l.length - 1)
  have eb : ld l * (D : Rat) = (b : Rat) := eb
  have hD := intCast_ne d0
  have b0 : b ≠ 0 := fun z => by
    rw [z] at eb
    rcases Rat.mul_eq_zero.mp eb with e | e
    · exact hd e
    · exact hD e
  refine ⟨b, b0, hb, fun k => ?_⟩
  obtain ⟨n, e, hn⟩ := d2 k
  refine ⟨n, ?_, hn⟩
  have em : G.mon l = sclP l (1 / ld l) := if_neg nl
  have h2 : 1 / ld l * ld l = 1 := by rw [Rat.div_def, Rat.one_mul, Rat.inv_mul_cancel _ hd]
  rw [em]
  unfold sclP
  rw [co_trim, co_scl, ← eb, ← e]
  generalize 1 / ld l = s at *
  grind
theorem Cz.neg {D : Int} {M : Nat} {l : List Rat} (h : Cz D M l) : Cz (-D) M l := fun k => by
  obtain ⟨n, e, hn⟩ := h k
  exact ⟨-n, by rw [Rat.intCast_neg, Rat.intCast_neg, ← e]; grind, by rw [Int.natAbs_neg]; exact hn⟩
theorem Cw.cm {M : Nat} {l : List Rat} (h : Cw M l) : ∃ E : Nat, 0 < E ∧ E < 2 ^ M ∧ Cm E M l := by
  obtain ⟨D, d0, d1, d2⟩ := h
  refine ⟨D.natAbs, by omega, d1, fun a ha => ?_⟩
  obtain ⟨k, rfl⟩ := mem_co ha
  rcases Int.natAbs_eq D with e | e
  · obtain ⟨n, h1, h2⟩ := d2 k
    exact ⟨n, by rw [← Rat.intCast_natCast, ← e]; exact h1, h2⟩
  · obtain ⟨n, h1, h2⟩ := d2.neg k
    exact ⟨n, by rw [← Rat.intCast_natCast, show ((D.natAbs : Nat) : Int) = -D by omega]; exact h1, h2⟩
theorem Cw.rch {A B t : Nat} {m l r : List Rat} (hl : Cw A l) (hm : Cw B m) (tm : Trim m) (nm : m ≠ []) (h : Rch m l t r) : Cw (A + t * (B + 1)) r := by
  obtain ⟨D, d0, d1, d2⟩ := hl
  obtain ⟨E, e0, e1, e2⟩ := hm.cm
  have hd : ld m ≠ 0 := tm.top nm
  obtain ⟨b, eb, hb⟩ := e2.co (m.length - 1)
  have eb : ld m * (E : Rat) = (b : Rat) := eb
  have b0 := ld_of eb hd e0
  refine ⟨D * b ^ t, Int.mul_ne_zero d0 (Int.pow_ne_zero b0), ?_, cz_rch d2 e2 e0 hd eb hb h⟩
  rw [Int.natAbs_mul]
  have hbt : (b ^ t).natAbs ≤ 2 ^ (B * t) := by
    rw [Int.natAbs_pow, Nat.pow_mul]
    exact Nat.pow_le_pow_left (by omega) t
  have h1 : D.natAbs * (b ^ t).natAbs < 2 ^ A * 2 ^ (B * t) := Nat.lt_of_le_of_lt (Nat.mul_le_mul_left _ hbt) (Nat.mul_lt_mul_of_pos_right d1 (Nat.two_pow_pos _))
  rw [← Nat.pow_add] at h1
  refine pow_up h1 ?_
  rw [Nat.mul_add, Nat.mul_comm t B]; omega
theorem Rch.steps {m l r : List Rat} {t : Nat} (hm : m ≠ []) (tm : Trim m) (h : Rch m l t r) : t ≤ l.length + 1 - m.length := by
  cases h with
  | z => omega
  | s h hl =>
    have := h.len hm tm
    omega
/-! ### a part's numbers -/
theorem eI_iA (x : Int) : ∀ l m : List Int, eI (iA l m) x = eI l x + eI m x
  | [], m => by show eI m x = 0 + _; omega
  | a :: l, [] => by show _ = _ + (0 : Int); show eI (a :: l) x = _; omega
  | a :: l, b :: m => by
    show (a + b) + x * eI (iA l m) x = (a + x * eI l x) + (b + x * eI m x)
    rw [eI_iA x l m]; grind
theorem eI_iS (c x : Int) : ∀ l : List Int, eI (iS c l) x = c * eI l x
  | [] => by show (0 : Int) = c * 0; omega
  | a :: l => by
    show c * a + x * eI (iS c l) x = c * (a + x * eI l x)
    rw [eI_iS c x l]; grind
theorem eI_iM (x : Int) : ∀ l m : List Int, eI (iM l m) x = eI l x * eI m x
  | [], m => by show (0 : Int) = 0 * _; omega
  | a :: l, m => by
    show eI (iA (iS a m) (0 :: iM l m)) x = (a + x * eI l x) * _
    rw [eI_iA, eI_iS]
    show _ + (0 + x * eI (iM l m) x) = _
    rw [eI_iM x l m]; grind
theorem eI_zero (x : Int) : ∀ l : List Int, (∀ k, ci l k = 0) → eI l x = 0
  | [], _ => rfl
  | a :: l, h => by
    have : a = 0 := h 0
    show a + x * eI l x = 0
    rw [this, eI_zero x l fun k => h (k + 1)]; omega
theorem eI_ext (x : Int) : ∀ l m : List Int, (∀ k, ci l k = ci m k) → eI l x = eI m x
  | [], m, h => by rw [eI_zero x m fun k => by rw [← h k, ci_nil]]; rfl
  | a :: l, [], h => by rw [eI_zero x (a :: l) fun k => by rw [h k, ci_nil]]; rfl
  | a :: l, b :: m, h => by
    have : a = b := h 0
    show a + x * eI l x = b + x * eI m x
    rw [this, eI_ext x l m fun k => h (k + 1)]
theorem eI_bd {V : Nat} {s : Int} (s0 : 0 ≤ s) (s1 : s ≤ 24) : ∀ l : List Int, (∀ k, (ci l k).natAbs ≤ V) → (eI l s).natAbs ≤ V * 25 ^ l.length
  | [], _ => Nat.zero_le _
  | a :: l, h => by
    have ha : a.natAbs ≤ V := h 0
    have ih := eI_bd s0 s1 l fun k => h (k + 1)
    have e : V * 25 ^ (a :: l).length = 25 * (V * 25 ^ l.length) := by rw [List.length_cons, Nat.pow_succ]; grind
    have hp : V ≤ V * 25 ^ l.length := Nat.le_mul_of_pos_right _ (Nat.pow_pos (by decide))
    have hm : (s * eI l s).natAbs ≤ 24 * (V * 25 ^ l.length) := by rw [Int.natAbs_mul]; exact Nat.mul_le_mul (by omega) ih
    show (a + s * eI l s).natAbs ≤ _
    rw [e]; omega
theorem ev_eI {D : Rat} {n : Int} : ∀ (l : List Rat) (C : List Int), C.length = l.length → (∀ k, co l k * D = ((ci C k : Int) : Rat)) → ev l (n : Rat) * D = ((eI C n : Int) : Rat)
  | [], C, hl, _ => by
    have : C = [] := List.length_eq_zero_iff.mp hl
    subst this
    show (0 : Rat) * D = ((0 : Int) : Rat)
    rw [Rat.zero_mul]; rfl
  | a :: l, [], hl, _ => by simp at hl
  | a :: l, x :: C, hl, h => by
    have ha : a * D = (x : Rat) := h 0
    have ih := ev_eI (D := D) (n := n) l C (by simpa using hl) fun k => h (k + 1)
    show (a + (n : Rat) * ev l (n : Rat)) * D = ((x + n * eI C n : Int) : Rat)
    rw [Rat.intCast_add, Rat.intCast_mul, ← ih, ← ha]; grind
theorem bd_ex : ∀ l : List Rat, ∃ K, ∀ a ∈ l, Bd K a
  | [] => ⟨0, fun _ h => by cases h⟩
  | a :: l => by
    obtain ⟨K, h⟩ := bd_ex l
    refine ⟨K + (a.num.natAbs + a.den), fun b hb => ?_⟩
    rcases List.mem_cons.mp hb with rfl | hb
    · exact ⟨pow_up Nat.lt_two_pow_self (by omega), pow_up Nat.lt_two_pow_self (by omega)⟩
    · exact (h b hb).mono (by omega)
theorem filt_add {α : Type} (f : α → Bool) : ∀ l : List α, l.length = (l.filter f).length + (l.filter fun a => !f a).length
  | [] => rfl
  | a :: l => by
    have ih := filt_add f l
    cases h : f a <;> simp [h] <;> omega
theorem places {c : List Rat} (tc : Trim c) (nc : c ≠ []) (l13 : c.length ≤ 13) : ∃ S : List Int, S.Nodup ∧ S.length = 13 ∧ ∀ s ∈ S, 0 ≤ s ∧ s ≤ 24 ∧ ev c (s : Rat) ≠ 0 := by
  have h1 := noughts_le (t := c) (xs := nats 25) tc nc (nats_nd 25)
  have h2 : noughts c (nats 25) = ((List.range 25).filter fun n : Nat => decide (ev c (n : Rat) = 0)).length := by
    unfold noughts nats
    rw [List.filter_map, List.length_map]; rfl
  have h3 := filt_add (fun n : Nat => decide (ev c (n : Rat) = 0)) (List.range 25)
  rw [List.length_range] at h3
  refine ⟨(((List.range 25).filter fun n : Nat => !decide (ev c (n : Rat) = 0)).take 13).map fun n : Nat => (n : Int), ?_, ?_, fun s hs => ?_⟩
  · have nd : (((List.range 25).filter fun n : Nat => !decide (ev c (n : Rat) = 0)).take 13).Nodup := List.Nodup.sublist (List.take_sublist _ _) (List.Pairwise.filter _ List.nodup_range)
    exact List.Pairwise.map _ (fun (a b : Nat) (h : a ≠ b) (e : (a : Int) = (b : Int)) => h (by omega)) nd
  · rw [List.length_map, List.length_take]; omega
  · obtain ⟨n, hn, rfl⟩ := List.mem_map.mp hs
    have hm := List.mem_filter.mp (List.mem_of_mem_take hn)
    have hr := List.mem_range.mp hm.1
    refine ⟨by omega, by omega, ?_⟩
    have := hm.2
    simp only [Bool.not_eq_true', decide_eq_false_iff_not] at this
    rw [Rat.intCast_natCast]; exact this
theorem Cw.factor {A : Nat} {c g h : List Rat} (hc : Cw A c) (tc : Trim c) (nc : c ≠ []) (l13 : c.length ≤ 13) (tg : Trim g) (ng : g ≠ []) (th : Trim h) (nh : h ≠ []) (e : ∀ x, ev c x = ev g x * ev h x) : Cw (A + 150) (G.mon g) := by
  obtain ⟨S, s1, s2, s3⟩ := places tc nc l13
  obtain ⟨D, d0, d1, d2⟩ := hc
  obtain ⟨C, lC, c1, c2⟩ := d2.list
  obtain ⟨Kg, bg⟩ := bd_ex g
  obtain ⟨Kh, bh⟩ := bd_ex h
  obtain ⟨Eg, eg0, _, eg⟩ := (Cw.of bg).cm
  obtain ⟨Eh, eh0, _, eh⟩ := (Cw.of bh).cm
  obtain ⟨X, lX, x1, _⟩ := eg.cz.list
  obtain ⟨Y, lY, y1, _⟩ := eh.cz.list
  have hcg : ∀ k, co c k = co (mulR g h) k := fun k => by
    have : c = mulP g h := ev_inj tc .mulP fun x => by rw [ev_mulP]; exact e x
    rw [this]; unfold mulP; rw [co_trim]
  have hprod : ∀ k, ci (iM X (iS D Y)) k = ((Eg * Eh : Nat) : Int) * ci C k := fun k => by
    have := mul_ci (D := ((Eg : Int) : Rat)) (E := ((Eh : Int) : Rat) * (D : Rat)) g h X (iS D Y) lX x1 (fun k => by
      rw [ci_iS, Rat.intCast_mul, ← y1]; grind) k
    refine Rat.intCast_inj.mp ?_
    rw [← this, Rat.intCast_mul, ← c1, hcg, Int.natCast_mul, Rat.intCast_mul]; grind
  obtain ⟨D1, D2, G1, H1, _, g2, _, g4, _, g6, _, g8⟩ := content (Eg * Eh) (Eg * Eh) X (iS D Y) C (Nat.le_refl _) (Nat.mul_pos eg0 eh0) hprod
  have hD := intCast_ne d0
  have vals : ∀ s ∈ S, (eI G1 s).natAbs ≤ 2 ^ A * 25 ^ 13 := fun s hs => by
    obtain ⟨a, b, hne⟩ := s3 s hs
    have e1 : eI G1 s * eI H1 s = eI C s := by rw [← eI_iM]; exact eI_ext s _ _ g8
    have e2 := ev_eI (D := (D : Rat)) (n := s) c C lC c1
    have e3 : eI C s ≠ 0 := fun z => by
      rw [z] at e2
      rcases Rat.mul_eq_zero.mp e2 with w | w
      · exact hne w
      · exact hD w
    have hH : eI H1 s ≠ 0 := fun z => e3 (by rw [← e1, z, Int.mul_zero])
    have h1 : (eI G1 s).natAbs ≤ (eI C s).natAbs := by
      rw [← e1, Int.natAbs_mul]
      exact Nat.le_mul_of_pos_right _ (by omega)
    have h2 := eI_bd (V := 2 ^ A) a b C fun k => Nat.le_of_lt (c2 k)
    have h3 : 2 ^ A * 25 ^ C.length ≤ 2 ^ A * 25 ^ 13 := Nat.mul_le_mul_left _ (Nat.pow_le_pow_right (by decide) (by omega))
    omega
  have hlen : g.length ≤ 13 := by
    have := Df.le tg tc nc ⟨h, fun x => by rw [e]; grind⟩
    omega
  have ht := height (2 ^ A * 25 ^ 13) S G1 s1 (fun s hs => ⟨(s3 s hs).1, (s3 s hs).2.1⟩) (by omega) vals
  rw [s2] at ht
  have hk : ∀ k, (ci G1 k).natAbs < 2 ^ (A + 150) := fun k => by
    refine Nat.lt_of_le_of_lt (ht k) ?_
    rw [Nat.pow_add, Nat.mul_assoc]
    exact Nat.mul_lt_mul_of_pos_left (by decide) (Nat.two_pow_pos A)
  have hd : ld g ≠ 0 := tg.top ng
  have hD1 : ((D1 : Int) : Rat) ≠ 0 := intCast_ne (by omega)
  have key : ∀ k, co g k * ((Eg : Int) : Rat) = ((D1 : Int) : Rat) * ((ci G1 k : Int) : Rat) := fun k => by rw [x1, g4, Rat.intCast_mul]
  have kl : ld g * ((Eg : Int) : Rat) = ((D1 : Int) : Rat) * ((ci G1 (g.length - 1) : Int) : Rat) := key _
  have hE : ((Eg : Int) : Rat) ≠ 0 := intCast_ne (by omega)
  refine ⟨ci G1 (g.length - 1), fun z => ?_, hk _, fun k => ⟨ci G1 k, ?_, hk k⟩⟩
  · rw [z] at kl
    rcases Rat.mul_eq_zero.mp (show ld g * ((Eg : Int) : Rat) = 0 by rw [kl]; exact Rat.mul_zero _) with w | w
    · exact hd w
    · exact hE w
  · have em : G.mon g = sclP g (1 / ld g) := if_neg ng
    have h2 : 1 / ld g * ld g = 1 := by rw [Rat.div_def, Rat.one_mul, Rat.inv_mul_cancel _ hd]
    have kk := key k
    rw [em]
    unfold sclP
    rw [co_trim, co_scl]
    generalize ((ci G1 (g.length - 1) : Int) : Rat) = gl at *
    generalize ((ci G1 k : Int) : Rat) = gk at *
    generalize ((D1 : Int) : Rat) = d1' at *
    generalize ((Eg : Int) : Rat) = eg' at *
    have a1 : co g k * gl * d1' = ld g * gk * d1' := by
      have : co g k * gl * d1' = co g k * (ld g * eg') := by rw [kl]; grind
      rw [this, show co g k * (ld g * eg') = ld g * (co g k * eg') by grind, kk]; grind
    have a2 : co g k * gl = ld g * gk := by
      have a3 : (co g k * gl - ld g * gk) * d1' = 0 := by grind
      rcases Rat.mul_eq_zero.mp a3 with w | w
      · grind
      · exact absurd w hD1
    have : co g k * (1 / ld g) * gl = 1 / ld g * (ld g * gk) := by rw [← a2]; grind
    rw [this, ← Rat.mul_assoc, h2, Rat.one_mul]
/-! ### how sizes grow in Euclid's way -/
def pell : Nat → Nat
  | 0 => 1
  | 1 => 1
  | n + 2 => 2 * pell (n + 1) + pell n
theorem pell_pos : ∀ n, 1 ≤ pell n
  | 0 => by decide
  | 1 => by decide
  | n + 2 => by
    show 1 ≤ 2 * pell (n + 1) + pell n
    have := pell_pos n
    omega
theorem pell_le : ∀ n, pell n ≤ pell (n + 1)
  | 0 => by decide
  | n + 1 => by show pell (n + 1) ≤ 2 * pell (n + 1) + pell n; omega
theorem pell_mono {m : Nat} : ∀ d, pell m ≤ pell (m + d)
  | 0 => Nat.le_refl _
  | d + 1 => Nat.le_trans (pell_mono d) (pell_le (m + d))
theorem pell_step {k : Nat} : ∀ s, pell k + (s + 1 + 1) * pell (k + 1) ≤ pell (k + 1 + (s + 1))
  | 0 => by show _ ≤ 2 * pell (k + 1) + pell k; omega
  | s + 1 => by
    have ih := pell_step (k := k) s
    have e : pell (k + 1 + (s + 1 + 1)) = 2 * pell (k + 1 + (s + 1)) + pell (k + 1 + s) := rfl
    have h1 := pell_pos k
    have h2 := pell_pos (k + 1)
    have e2 : (s + 1 + 1 + 1) * pell (k + 1) = (s + 1 + 1) * pell (k + 1) + pell (k + 1) := Nat.succ_mul _ _
    have h3 : pell (k + 1) ≤ (s + 1 + 1) * pell (k + 1) := Nat.le_mul_of_pos_left _ (by omega)
    omega
end G

set_option linter.all false
set_option maxHeartbeats 2000000
set_option maxRecDepth 10000
/-! F22: common, plain, split. -/
namespace G
open PySem
local macro_rules | `(tactic| walk_at "ev") => `(tactic| simp only [vl_nm, vl_bor, vl_cst, vl_bin, vl_neg, vl_cmp, vl_isn, vl_chn, vl_inn, vl_and, vl_or, vl_not, vl_ifx, vl_ix, vl_slc, vl_rev, vl_tup, vl_lst, vl_call, vl_blt, vl_isi, vl_lc, ev_nm, ev_cst, ev_bin, ev_neg, ev_cmp, ev_isn, ev_chn, ev_inn, ev_and, ev_or, ev_not, ev_ifx, ev_ix, ev_slc, ev_rev, ev_tup, ev_lst, ev_call, ev_blt, ev_isi, ev_lc, evEs_nil, evEs_cons, evAs_nil, evAs_cons, evO_none, evO_some, evC_none, evC_some, evIt_val, evIt_rng1, evIt_rng2, evIt_rvd, evT_vl, andR_t, andR_f, orR_f, orR_t, ifxR_t, ifxR_f, chnR_t, chnR_f, ss_nil', ss_cons', thn_nx, thn_ret, thn_exc, thn_bad, s_set', set_ok, set_exc, s_unp', unp_ok, s_ifs', if_t, if_f, s_for', for_ok, s_whl', s_ret', s_retn', s_pass', s_rse', s_exp', s_try', try_nx, try_ret, try_exc, s_par', s_par3', s_six', s_app', s_pop', s_popu', s_rev', rO_ok, rO_exc, ret_nm, ret_bor, ret_cst, ret_bin, ret_neg, ret_cmp, ret_isn, ret_chn, ret_inn, ret_and, ret_or, ret_not, ret_ifx, ret_ix, ret_slc, ret_rev, ret_tup, ret_lst, ret_call, ret_blt, ret_isi, ret_lc, fin_nx, fin_ret, fin_exc, b_add, b_sub, b_mul, b_fdiv, b_mod, p11, p12, p30, p42, p57, p59, b_addL, b_addT, b_mulL, c_lt, c_le, c_gt, c_ge, truth_bl, toI_int, toB_bl, items_lst, items_tup, len_lst, len_tup, len_scr, abs_int, int_int, int_bl, list_lst, list_tup, list_scr, tuple_lst, tuple_tup, max_int, min_int, ix_p0, ix_p1, c_eqI, c_neI, startE, frzE, frzI, frzAll, frz, kept, keptL, keptO, keptI, put, look, lookF, ownL_s, ownS_lst, evCall, lent, borI, bind_one, bind_tup, putAll, isLst_int, isLst_bl, isLst_str, isLst_tup, isLst_non, isLst_scr, isLst_exc, isLst_lst, isNon_int, isNon_bl, isNon_str, isNon_tup, isNon_non, isNon_scr, isNon_exc, isNon_lst, R.bind_ok, R.bind_exc, R.map_ok, R.map_exc, List.map_cons, List.map_nil, List.length_cons, List.length_nil, List.replicate, List.cons_append, List.nil_append, List.append_nil, List.getElem?_cons_zero, List.getElem?_cons_succ, List.set_cons_zero, List.set_cons_succ, Bool.false_and, Bool.true_and, Bool.and_true, Bool.and_false, Bool.or_false, Bool.false_or, Bool.or_true, Bool.true_or, Bool.not_true, Bool.not_false, decide_true, decide_false, if_true, if_false, ite_true, ite_false, reduceCtorEq, reduceIte, Nat.reduceAdd, Nat.reduceSub, Nat.reduceMul, Nat.reduceEqDiff, Int.reduceEq, Int.reduceLT, Int.reduceLE, Int.reduceNe, Int.reduceNeg, Int.reduceAdd, Int.reduceMul, Int.reduceSub, Nat.reduceLT, Nat.reduceLeDiff, Int.reduceGT, Int.reduceGE, is_tup_tuple, is_tup_list, is_tup_int, is_tup_bool, is_tup_str, is_lst_tuple, is_lst_list, is_lst_int, is_lst_bool, is_lst_str, is_int_tuple, is_int_list, is_int_int, is_int_bool, is_int_str, is_bl_tuple, is_bl_list, is_bl_int, is_bl_bool, is_bl_str, is_str_tuple, is_str_list, is_str_int, is_str_bool, is_str_str, is_non_tuple, is_non_list, is_non_int, is_non_bool, is_non_str, forS_ok, forB_nx, forB_ret, forL_nil, lc_nil, Int.cast_ofNat_Int, lc_cons, vlE_d, lenOk0, lenOk1, lenOk2, lenOk3, wipe1, wipe2, R.noexc_ok, decide_eq_true_eq, eq_self, ix_nv0, ix_nv1, is_nv_tuple, is_cv_tuple, is_lv_list, is_lv_tuple, is_cv_list, isLst_nv, isLst_cv, isLst_lv, isNon_nv, isNon_cv, isNon_lv, bind_nv, items_cv, items_lv, len_cv, len_lv, list_cv, list_lv, tuple_cv, tuple_lv, c_eqN, c_neN, c_eqC, c_neC, c_eqL, c_neL, nv01, nv11, cv_nil, cv_one, rev_lv, rev_cv, lv_one, lv_map, cv_map, lenOk_map, List.length_map, ownS_lv, back_bl, back_int, back_nv, back_cv, back_lv, c_eqB, c_neB])
local macro_rules | `(tactic| walk_at "evh") => `(tactic| simp only [vl_nm, vl_bor, vl_cst, vl_bin, vl_neg, vl_cmp, vl_isn, vl_chn, vl_inn, vl_and, vl_or, vl_not, vl_ifx, vl_ix, vl_slc, vl_rev, vl_tup, vl_lst, vl_call, vl_blt, vl_isi, vl_lc, ev_nm, ev_cst, ev_bin, ev_neg, ev_cmp, ev_isn, ev_chn, ev_inn, ev_and, ev_or, ev_not, ev_ifx, ev_ix, ev_slc, ev_rev, ev_tup, ev_lst, ev_call, ev_blt, ev_isi, ev_lc, evEs_nil, evEs_cons, evAs_nil, evAs_cons, evO_none, evO_some, evC_none, evC_some, evIt_val, evIt_rng1, evIt_rng2, evIt_rvd, evT_vl, andR_t, andR_f, orR_f, orR_t, ifxR_t, ifxR_f, chnR_t, chnR_f, ss_nil', ss_cons', thn_nx, thn_ret, thn_exc, thn_bad, s_set', set_ok, set_exc, s_unp', unp_ok, s_ifs', if_t, if_f, s_for', for_ok, s_whl', s_ret', s_retn', s_pass', s_rse', s_exp', s_try', try_nx, try_ret, try_exc, s_par', s_par3', s_six', s_app', s_pop', s_popu', s_rev', rO_ok, rO_exc, ret_nm, ret_bor, ret_cst, ret_bin, ret_neg, ret_cmp, ret_isn, ret_chn, ret_inn, ret_and, ret_or, ret_not, ret_ifx, ret_ix, ret_slc, ret_rev, ret_tup, ret_lst, ret_call, ret_blt, ret_isi, ret_lc, fin_nx, fin_ret, fin_exc, b_add, b_sub, b_mul, b_fdiv, b_mod, p11, p12, p30, p42, p57, p59, b_addL, b_addT, b_mulL, c_lt, c_le, c_gt, c_ge, truth_bl, toI_int, toB_bl, items_lst, items_tup, len_lst, len_tup, len_scr, abs_int, int_int, int_bl, list_lst, list_tup, list_scr, tuple_lst, tuple_tup, max_int, min_int, ix_p0, ix_p1, c_eqI, c_neI, startE, frzE, frzI, frzAll, frz, kept, keptL, keptO, keptI, put, look, lookF, ownL_s, ownS_lst, evCall, lent, borI, bind_one, bind_tup, putAll, isLst_int, isLst_bl, isLst_str, isLst_tup, isLst_non, isLst_scr, isLst_exc, isLst_lst, isNon_int, isNon_bl, isNon_str, isNon_tup, isNon_non, isNon_scr, isNon_exc, isNon_lst, R.bind_ok, R.bind_exc, R.map_ok, R.map_exc, List.map_cons, List.map_nil, List.length_cons, List.length_nil, List.replicate, List.cons_append, List.nil_append, List.append_nil, List.getElem?_cons_zero, List.getElem?_cons_succ, List.set_cons_zero, List.set_cons_succ, Bool.false_and, Bool.true_and, Bool.and_true, Bool.and_false, Bool.or_false, Bool.false_or, Bool.or_true, Bool.true_or, Bool.not_true, Bool.not_false, decide_true, decide_false, if_true, if_false, ite_true, ite_false, reduceCtorEq, reduceIte, Nat.reduceAdd, Nat.reduceSub, Nat.reduceMul, Nat.reduceEqDiff, Int.reduceEq, Int.reduceLT, Int.reduceLE, Int.reduceNe, Int.reduceNeg, Int.reduceAdd, Int.reduceMul, Int.reduceSub, Nat.reduceLT, Nat.reduceLeDiff, Int.reduceGT, Int.reduceGE, is_tup_tuple, is_tup_list, is_tup_int, is_tup_bool, is_tup_str, is_lst_tuple, is_lst_list, is_lst_int, is_lst_bool, is_lst_str, is_int_tuple, is_int_list, is_int_int, is_int_bool, is_int_str, is_bl_tuple, is_bl_list, is_bl_int, is_bl_bool, is_bl_str, is_str_tuple, is_str_list, is_str_int, is_str_bool, is_str_str, is_non_tuple, is_non_list, is_non_int, is_non_bool, is_non_str, forS_ok, forB_nx, forB_ret, forL_nil, lc_nil, Int.cast_ofNat_Int, lc_cons, vlE_d, lenOk0, lenOk1, lenOk2, lenOk3, wipe1, wipe2, R.noexc_ok, decide_eq_true_eq, eq_self, ix_nv0, ix_nv1, is_nv_tuple, is_cv_tuple, is_lv_list, is_lv_tuple, is_cv_list, isLst_nv, isLst_cv, isLst_lv, isNon_nv, isNon_cv, isNon_lv, bind_nv, items_cv, items_lv, len_cv, len_lv, list_cv, list_lv, tuple_cv, tuple_lv, c_eqN, c_neN, c_eqC, c_neC, c_eqL, c_neL, nv01, nv11, cv_nil, cv_one, rev_lv, rev_cv, lv_one, lv_map, cv_map, lenOk_map, List.length_map, ownS_lv, back_bl, back_int, back_nv, back_cv, back_lv, c_eqB, c_neB, *])
def fd_with_last_one : FD := ⟨1, 1, [.ifs (.cmp .eq (.bor 0) (.tup [])) [.ret (.tup [])] [], .ret (.call 12 [(.nm 0), (.call 7 [(.cst (.tup [(.int 1), (.int 1)])), (.ix (.bor 0) (.neg (.cst (.int 1))))])])]⟩
def fd_common : FD := ⟨2, 2, [.whl (.cmp .ne (.bor 1) (.tup [])) [.par 0 1 (.nm 1) (.call 21 [(.ix (.call 20 [(.nm 0), (.nm 1)]) (.cst (.int 1)))])], .ret (.call 21 [(.nm 0)])]⟩
def fd_plain : FD := ⟨1, 1, [.ifs (.cmp .eq (.bor 0) (.tup [])) [.rse 2] [], .ret (.call 21 [(.ix (.call 20 [(.nm 0), (.call 22 [(.nm 0), (.call 17 [(.nm 0)])])]) (.cst (.int 0)))])]⟩
def fd_split : FD := ⟨1, 4, [.ifs (.cmp .eq (.bor 0) (.tup [])) [.rse 2] [], .set 1 (.tup [(.cst (.tup [(.int 1), (.int 1)]))]), .set 2 (.call 22 [(.nm 0), (.call 17 [(.nm 0)])]), .whl (.cmp .gt (.blt .len [(.bor 2)]) (.cst (.int 1))) [.set 3 (.call 23 [(.nm 2)]), .set 1 (.call 15 [(.nm 1), (.nm 3)]), .set 0 (.ix (.call 20 [(.nm 0), (.call 15 [(.nm 3), (.nm 3)])]) (.cst (.int 0))), .set 2 (.call 22 [(.nm 0), (.call 17 [(.nm 0)])])], .ret (.tup [(.nm 1), (.nm 0)])]⟩
theorem pell_le' {m n : Nat} (h : m ≤ n) : pell m ≤ pell n := by
  obtain ⟨d, rfl⟩ : ∃ d, n = m + d := ⟨n - m, by omega⟩
  exact pell_mono d
theorem mon_self {l : List Rat} (tl : Trim l) (nl : l ≠ []) (h : ld l = 1) : mon l = l := by
  obtain ⟨t, _, _, _, e, _, _⟩ := mon_ok tl nl
  refine ev_inj t tl fun x => ?_
  rw [e, h]; grind
theorem mon_nil : mon [] = [] := if_pos rfl
section
variable {FT : Nat → Option FD} (h0 : FT 0 = some fd_divisor_of) (h1 : FT 1 = some fd_number) (h4 : FT 4 = some fd_plus) (h6 : FT 6 = some fd_times) (h7 : FT 7 = some fd_over) (h8 : FT 8 = some fd_without_noughts) (h11 : FT 11 = some fd_at_power) (h12 : FT 12 = some fd_scaled) (h13 : FT 13 = some fd_added) (h14 : FT 14 = some fd_taken) (h20 : FT 20 = some fd_divided) (h21 : FT 21 = some fd_with_last_one)
include h0 h1 h6 h7 h8 h12 h21
theorem callF_wlo {n K : Nat} {l : List Rat} (tl : Trim l) (bl : BL (K + 1) l) (hl : l.length ≤ 500) (hK : K ≤ 55000000) : callF FT (n + 5) 21 [cv l] = .ok (cv (mon l), false) := by
  rw [callF_s h21 rfl]
  rcases Decidable.em (l = []) with z | z
  · subst z
    rw [mon_nil]
    have d : decide (([] : List Rat) = []) = true := rfl
    unfold fd_with_last_one
    clear bl tl
    walk_at "evh"
  · have d : decide (l = []) = false := decide_eq_false z
    have bo : Bd 1 (1 : Rat) := ⟨by decide, by decide⟩
    have c1 : callF FT (n + 4) 7 [nv 1, nv (ld l)] = _ := callF_over h0 h1 h7 (n := n + 1) (tl.top z) bo (Bd.ld bl) (by omega)
    have c2 : callF FT (n + 4) 12 [cv l, nv (1 / ld l)] = _ := callF_scaled h0 h1 h6 h8 h12 (n := n) bl (bo.div (Bd.ld bl)) (by omega) (by omega)
    have ix := ix_ld z
    have e : mon l = sclP l (1 / ld l) := if_neg z
    rw [e]
    unfold fd_with_last_one
    clear bl tl e z bo
    generalize sclP l (1 / ld l) = m at *
    generalize 1 / ld l = q at *
    walk_at "evh"
include h4 h11 h13 h14 h20
/-- one turn of Euclid's way -/
def comB : List S := [.par 0 1 (.nm 1) (.call 21 [(.ix (.call 20 [(.nm 0), (.nm 1)]) (.cst (.int 1)))])]
theorem com_step {N F1 F2 B : Nat} {one other : List Rat} (t1 : Trim one) (t2 : Trim other) (n2 : other ≠ []) (l1 : one.length ≤ 13) (l2 : other.length ≤ 13) (c1 : Cw F1 one) (c2 : Cw F2 other) (hB : B ≤ 25000000) (b2 : F2 ≤ B) (hb : F1 + (one.length + 1 - other.length) * (F2 + 1) ≤ B) :
    ∃ r q : List Rat, evSs (callF FT (N + 6)) comB [some (cv one, false), some (cv other, false)] = .nx [some (cv other, false), some (cv (mon r), false)] ∧ Trim r ∧ r.length < other.length ∧ (∀ x, ev one x = ev q x * ev other x + ev r x) ∧ Cw (F1 + (one.length + 1 - other.length) * (F2 + 1)) r := by
  have rb : ∀ t r, Rch other one t r → Cw (F1 + (one.length + 1 - other.length) * (F2 + 1)) r := fun t r h => by
    have hs := h.steps n2 t2
    have := Nat.mul_le_mul_right (F2 + 1) hs
    exact (c1.rch c2 t2 n2 h).mono (by omega)
  obtain ⟨Q, r, t, e, hr, tQ, tr, hlt, he, bQ, _⟩ := callF_divided h0 h1 h4 h6 h7 h8 h11 h12 h13 h14 h20 (n := N) n2 t2 t1 (B := B) (BL.mono c2.bl (by omega)) hB (by omega) (by omega) (fun t r h => BL.mono (rb t r h).bl (by omega))
  have cr := rb t r hr
  have c21 : callF FT (N + 6) 21 [cv r] = _ := callF_wlo h0 h1 h6 h7 h8 h12 h21 (n := N + 1) (K := B) tr (BL.mono cr.bl (by omega)) (by omega) (by omega)
  refine ⟨r, Q, ?_, tr, hlt, he, cr⟩
  have i1 : evIx (.tup [cv Q, cv r]) (.int 1) = .ok (cv r) := rfl
  have hne : ¬ (0 : Nat) = 1 := by decide
  unfold comB
  clear cr rb bQ he tQ tr hr c1 c2 t1 t2
  walk_at "evh"
theorem com_loop {N n W : Nat} (hW : pell n * W ≤ 25000000) (hn : n ≤ 13) : ∀ (b : Nat) (one other : List Rat) (F1 F2 : Nat), other.length ≤ b → Trim one → Trim other → other.length < one.length → one.length ≤ n → Cw F1 one → Cw F2 other → F1 + 1 ≤ pell (n - one.length) * W → F2 + 1 ≤ pell (n + 1 - one.length) * W →
    ∃ g F, whlO (callF FT (N + 6)) (.cmp .ne (.bor 1) (.tup [])) comB [some (cv one, false), some (cv other, false)] = .nx [some (cv g, false), some (cv [], false)] ∧ Trim g ∧ g ≠ [] ∧ g.length ≤ n ∧ Df g (ev one) ∧ Df g (ev other) ∧ Lin g one other ∧ Cw F g ∧ F ≤ pell n * W
  | b, one, other, F1, F2, hb, t1, t2, hlt, hl, c1, c2, w1, w2 => by
    have n1 : one ≠ [] := fun z => by rw [z] at hlt; simp at hlt
    rcases Decidable.em (other = []) with z | z
    · subst z
      have d : decide (([] : List Rat) = []) = true := rfl
      have hm := Nat.mul_le_mul_right W (pell_le' (show n - one.length ≤ n by omega))
      exact ⟨one, F1, whlO_f (by clear c1 c2 t1 t2; walk_at "evh"), t1, n1, hl, .refl one, ⟨[], fun x => by show (0 : Rat) = 0 * _; grind⟩, .l one [], c1, by omega⟩
    · have hp := List.length_pos_iff.mpr z
      cases b with
      | zero => omega
      | succ b =>
        obtain ⟨s, hs⟩ : ∃ s, one.length = other.length + (s + 1) := ⟨one.length - other.length - 1, by omega⟩
        have ps := pell_step (k := n - one.length) s
        have e1 : n - one.length + 1 = n + 1 - one.length := by omega
        have e2 : n - one.length + 1 + (s + 1) = n + 1 - other.length := by omega
        rw [e2, e1] at ps
        have pw := Nat.mul_le_mul_right W ps
        rw [Nat.add_mul] at pw
        have t3 : one.length + 1 - other.length = s + 1 + 1 := by omega
        have m2 : (s + 1 + 1) * (F2 + 1) ≤ (s + 1 + 1) * pell (n + 1 - one.length) * W := by
          rw [Nat.mul_assoc]; exact Nat.mul_le_mul_left _ w2
        have pn := Nat.mul_le_mul_right W (pell_le' (show n + 1 - other.length ≤ n by omega))
        have pn2 := Nat.mul_le_mul_right W (pell_le' (show n + 1 - one.length ≤ n by omega))
        have pn3 := Nat.mul_le_mul_right W (pell_le' (show n + 1 - one.length ≤ n - other.length by omega))
        obtain ⟨r, q, e, tr, hr, he, cr⟩ := com_step h0 h1 h4 h6 h7 h8 h11 h12 h13 h14 h20 h21 (N := N) (B := pell n * W) t1 t2 z (by omega) (by omega) c1 c2 hW (by omega) (by rw [t3]; omega)
        rw [t3] at cr
        have mr : Trim (mon r) ∧ (mon r).length = r.length ∧ Cw (F1 + (s + 1 + 1) * (F2 + 1)) (mon r) ∧ (∃ s : Rat, ∀ x, ev (mon r) x = ev r x * s) ∧ (∃ s : Rat, ∀ x, ev r x = ev (mon r) x * s) := by
          rcases Decidable.em (r = []) with w | w
          · subst w
            rw [mon_nil]
            exact ⟨.nil, rfl, cr, ⟨0, fun x => by show (0 : Rat) = 0 * 0; grind⟩, ⟨0, fun x => by show (0 : Rat) = 0 * 0; grind⟩⟩
          · obtain ⟨m1, _, _, m4, m5, _, _⟩ := mon_ok tr w
            refine ⟨m1, m4, cr.mon tr w, ⟨_, m5⟩, ⟨ld r, fun x => ?_⟩⟩
            have h2 : 1 / ld r * ld r = 1 := by rw [Rat.div_def, Rat.one_mul, Rat.inv_mul_cancel (ld r) (show ld r ≠ 0 from tr.top w)]
            rw [m5, Rat.mul_assoc, h2, Rat.mul_one]
        obtain ⟨tm, lm, cm, ⟨sa, ea⟩, ⟨sb, eb⟩⟩ := mr
        obtain ⟨g, F, e3, tg, ng, lg, d1, d2, li, cg, hF⟩ := com_loop hW hn b other (mon r) F2 (F1 + (s + 1 + 1) * (F2 + 1)) (by omega) t2 tm (by omega) (by omega) c2 cm (by omega) (by omega)
        have dr : Df g (ev r) := (d2.smul sb).congr fun x => by rw [eb]; grind
        refine ⟨g, F, ?_, tg, ng, lg, ((d1.mulL q).add dr).congr he, d1, li.comp (.r one other) ?_, cg, hF⟩
        · have d : decide (other = []) = false := decide_eq_false z
          rw [whlO_t (by clear e e3 c1 c2 cr cm; walk_at "evh") e, e3]
        · exact ⟨[sa], sclR (-sa) q, fun x => by
            rw [ea, ev_const, ev_scl]
            have := he x
            grind⟩
theorem callF_common (h22 : FT 22 = some fd_common) {N n Y : Nat} {one other : List Rat} (t1 : Trim one) (t2 : Trim other) (hn : n ≤ 13) (l1 : one.length ≤ n) (l2 : other.length ≤ n) (c1 : Cw Y one) (c2 : Cw Y other) (hne : one ≠ [] ∨ other ≠ []) (hW : pell n * (2 * (Y + 1)) ≤ 25000000) :
    ∃ g, callF FT (N + 7) 22 [cv one, cv other] = .ok (cv g, false) ∧ Gcd g one other ∧ g ≠ [] ∧ ld g = 1 := by
  have pp := pell_pos n
  have pW : 2 * (Y + 1) ≤ pell n * (2 * (Y + 1)) := Nat.le_mul_of_pos_left _ pp
  have key : ∃ g F, whlO (callF FT (N + 6)) (.cmp .ne (.bor 1) (.tup [])) comB [some (cv one, false), some (cv other, false)] = .nx [some (cv g, false), some (cv [], false)] ∧ Trim g ∧ g ≠ [] ∧ g.length ≤ n ∧ Df g (ev one) ∧ Df g (ev other) ∧ Lin g one other ∧ Cw F g ∧ F ≤ pell n * (2 * (Y + 1)) := by
    rcases Decidable.em (other = []) with z | z
    · subst z
      have n1 : one ≠ [] := hne.resolve_right fun h => h rfl
      have d : decide (([] : List Rat) = []) = true := rfl
      exact ⟨one, Y, whlO_f (by clear c1 c2 t1 t2; walk_at "evh"), t1, n1, l1, .refl one, ⟨[], fun x => by show (0 : Rat) = 0 * _; grind⟩, .l one [], c1, by omega⟩
    · by_cases hlt : other.length < one.length
      · have p1 := Nat.mul_le_mul_right (2 * (Y + 1)) (pell_pos (n - one.length))
        have p2 := Nat.mul_le_mul_right (2 * (Y + 1)) (pell_pos (n + 1 - one.length))
        exact com_loop h0 h1 h4 h6 h7 h8 h11 h12 h13 h14 h20 h21 hW hn other.length one other Y Y (Nat.le_refl _) t1 t2 hlt l1 c1 c2 (by omega) (by omega)
      · have t3 : one.length + 1 - other.length ≤ 1 := by omega
        have t4 := Nat.mul_le_mul_right (Y + 1) t3
        obtain ⟨r, q, e, tr, hr, he, cr⟩ := com_step h0 h1 h4 h6 h7 h8 h11 h12 h13 h14 h20 h21 (N := N) (B := pell n * (2 * (Y + 1))) t1 t2 z (by omega) (by omega) c1 c2 hW (by omega) (by omega)
        have cr : Cw (Y + (Y + 1)) r := cr.mono (by omega)
        have mr : Trim (mon r) ∧ (mon r).length = r.length ∧ Cw (Y + (Y + 1)) (mon r) ∧ (∃ s : Rat, ∀ x, ev (mon r) x = ev r x * s) ∧ (∃ s : Rat, ∀ x, ev r x = ev (mon r) x * s) := by
          rcases Decidable.em (r = []) with w | w
          · subst w
            rw [mon_nil]
            exact ⟨.nil, rfl, cr, ⟨0, fun x => by show (0 : Rat) = 0 * 0; grind⟩, ⟨0, fun x => by show (0 : Rat) = 0 * 0; grind⟩⟩
          · obtain ⟨m1, _, _, m4, m5, _, _⟩ := mon_ok tr w
            refine ⟨m1, m4, cr.mon tr w, ⟨_, m5⟩, ⟨ld r, fun x => ?_⟩⟩
            have h2 : 1 / ld r * ld r = 1 := by rw [Rat.div_def, Rat.one_mul, Rat.inv_mul_cancel (ld r) (show ld r ≠ 0 from tr.top w)]
            rw [m5, Rat.mul_assoc, h2, Rat.mul_one]
        obtain ⟨tm, lm, cm, ⟨sa, ea⟩, ⟨sb, eb⟩⟩ := mr
        have p1 := Nat.mul_le_mul_right (2 * (Y + 1)) (pell_pos (n - other.length))
        have p2 := Nat.mul_le_mul_right (2 * (Y + 1)) (pell_pos (n + 1 - other.length))
        obtain ⟨g, F, e3, tg, ng, lg, d1, d2, li, cg, hF⟩ := com_loop h0 h1 h4 h6 h7 h8 h11 h12 h13 h14 h20 h21 (N := N) hW hn (mon r).length other (mon r) Y (Y + (Y + 1)) (Nat.le_refl _) t2 tm (by omega) l2 c2 cm (by omega) (by omega)
        have dr : Df g (ev r) := (d2.smul sb).congr fun x => by rw [eb]; grind
        refine ⟨g, F, ?_, tg, ng, lg, ((d1.mulL q).add dr).congr he, d1, li.comp (.r one other) ?_, cg, hF⟩
        · have d : decide (other = []) = false := decide_eq_false z
          rw [whlO_t (by clear e e3 c1 c2 cr cm; walk_at "evh") e, e3]
        · exact ⟨[sa], sclR (-sa) q, fun x => by
            rw [ea, ev_const, ev_scl]
            have := he x
            grind⟩
  obtain ⟨g, F, e, tg, ng, lg, d1, d2, li, cg, hF⟩ := key
  obtain ⟨m1, m2, m3, m4, m5, m6, m7⟩ := mon_ok tg ng
  have c21 : callF FT (N + 6) 21 [cv g] = _ := callF_wlo h0 h1 h6 h7 h8 h12 h21 (n := N + 1) (K := pell n * (2 * (Y + 1))) tg (BL.mono cg.bl (by omega)) (by omega) (by omega)
  refine ⟨mon g, ?_, ⟨m1, m6.trans d1, m6.trans d2, ?_⟩, m2, m3⟩
  · rw [callF_s h22 rfl]
    have eb : fd_common.body = [.whl (.cmp .ne (.bor 1) (.tup [])) comB, .ret (.call 21 [(.nm 0)])] := rfl
    rw [eb, show fd_common.nl = 2 from rfl]
    clear eb cg m1 m2 m3 m4 m5 m6 m7 d1 d2 li t1 t2 c1 c2
    generalize mon g = m at *
    walk_at "evh"
  · obtain ⟨u, v, huv⟩ := li
    exact ⟨sclR (1 / ld g) u, sclR (1 / ld g) v, fun x => by rw [m5, huv, ev_scl, ev_scl]; grind⟩
/-- divided by a part -/
theorem callF_exact {N A G : Nat} {c g : List Rat} (tc : Trim c) (tg : Trim g) (ng : g ≠ []) (l13 : c.length ≤ 13) (g13 : g.length ≤ 13) (hc : Cw A c) (hg : Cw G g) (hd : Df g (ev c)) (hB : A + 14 * (G + 1) ≤ 25000000) :
    ∃ q, callF FT (N + 6) 20 [cv c, cv g] = .ok (.tup [cv q, cv []], false) ∧ Trim q ∧ (∀ x, ev c x = ev q x * ev g x) ∧ BL (2 * (A + 14 * (G + 1)) + 3) q ∧ q.length = c.length + 1 - g.length := by
  obtain ⟨Q, r, t, e, hr, tQ, tr, hlt, he, bQ, lQ⟩ := callF_divided h0 h1 h4 h6 h7 h8 h11 h12 h13 h14 h20 (n := N) ng tg tc (B := A + 14 * (G + 1)) (BL.mono hg.bl (by omega)) hB (by omega) (by omega) (fun t r h => by
    have hs := h.steps ng tg
    have := Nat.mul_le_mul_right (G + 1) (show t ≤ 14 by omega)
    exact BL.mono (hc.rch hg tg ng h).bl (by omega))
  have rz : r = [] := by
    rcases Decidable.em (r = []) with z | z
    · exact z
    · have dr : Df g (ev r) := (hd.sub ((Df.refl g).mulL Q)).congr fun x => by rw [he]; grind
      have := dr.le tg tr z
      omega
  subst rz
  refine ⟨Q, e, tQ, fun x => ?_, bQ, lQ⟩
  rw [he]
  show _ + (0 : Rat) = _
  grind
theorem callF_plain (h17 : FT 17 = some fd_slope) (h22 : FT 22 = some fd_common) (h23 : FT 23 = some fd_plain) {N n Y : Nat} {c : List Rat} (tc : Trim c) (nc : c ≠ []) (hn : n ≤ 13) (l1 : c.length ≤ n) (hc : Cw Y c) (hYb : Y ≤ 1000000) (hW : pell n * (2 * (Y + 5)) ≤ 25000000) :
    ∃ f, callF FT (N + 8) 23 [cv c] = .ok (cv f, false) ∧ Trim f ∧ f ≠ [] ∧ ld f = 1 ∧ Df f (ev c) ∧ Sq f ∧ ∀ p, Irr p → Df p (ev c) → Df p (ev f) := by
  have hY := hc.pos
  have pp := Nat.le_mul_of_pos_left (2 * (Y + 5)) (pell_pos n)
  have bc : BL (Y - 1 + 1) c := BL.mono hc.bl (by omega)
  have c1 : callF FT (N + 7) 17 [cv c] = _ := callF_slope h0 h1 h6 h17 (n := N + 3) bc (by omega) (by omega)
  obtain ⟨g, e, hg, ng, lg⟩ := callF_common h0 h1 h4 h6 h7 h8 h11 h12 h13 h14 h20 h21 h22 (N := N) (n := n) (Y := Y + 4) tc tc.slp hn l1 (by rw [slpR_len]; omega) (hc.mono (by omega)) (hc.slp (by omega)) (.inl nc) hW
  obtain ⟨_, q0, tq0, nq0, lq0, eq0⟩ := hg.a.len hg.t tc nc
  have hq0 := List.length_pos_iff.mpr nq0
  have cg : Cw (Y + 150) g := by
    have := hc.factor tc nc (by omega) hg.t ng tq0 nq0 (fun x => by rw [eq0, ev_mulP]; grind)
    rw [mon_self hg.t ng lg] at this; exact this
  obtain ⟨q, e2, tq, eq, bq, _⟩ := callF_exact h0 h1 h4 h6 h7 h8 h11 h12 h13 h14 h20 h21 (N := N + 1) tc hg.t ng (by omega) (by omega) hc cg hg.a (by omega)
  have nq : q ≠ [] := fun z => nc (ev_ne tc fun x => by rw [eq, z]; show (0 : Rat) * _ = 0; grind)
  obtain ⟨m1, m2, m3, m4, m5, m6, m7⟩ := mon_ok tq nq
  have c3 : callF FT (N + 7) 21 [cv q] = _ := callF_wlo h0 h1 h6 h7 h8 h12 h21 (n := N + 2) (K := 2 * (Y + 14 * (Y + 150 + 1)) + 2) tq bq (by have := hg.a.le hg.t tc nc; omega) (by omega)
  have sq := plain_sq tc nc hg eq
  refine ⟨mon q, ?_, m1, m2, m3, m6.trans ⟨g, fun x => by rw [eq]; grind⟩, fun p hp hd => sq p hp (hd.trans m6), fun p hp hd => (plain_all tc nc hg eq hp hd tq hg.t ng).trans m7⟩
  rw [callF_s h23 rfl]
  have d : decide (c = []) = false := decide_eq_false nc
  have i0 : evIx (.tup [cv q, cv []]) (.int 0) = .ok (cv q) := rfl
  unfold fd_plain
  clear hW hc cg sq m1 m2 m3 m4 m5 m6 m7 bq bc hg eq tq nq tc nc eq0
  generalize mon q = f at *
  generalize slpR c = s at *
  walk_at "evh"
theorem ld_mul {l m : List Rat} (tl : Trim l) (tm : Trim m) (nl : l ≠ []) (nm : m ≠ []) : ld (mulP l m) = ld l * ld m := by
  have h1 := List.length_pos_iff.mpr nl
  have h2 := List.length_pos_iff.mpr nm
  have e := mulP_len tl tm nl nm
  show co (mulP l m) ((mulP l m).length - 1) = _
  rw [e, mulP_eq tl tm nl nm, show l.length + m.length - 1 - 1 = l.length - 1 + (m.length - 1) by omega]
  exact top_mulR l m nl nm
omit h0 h1 h4 h6 h7 h8 h11 h12 h13 h14 h20 h21 in
theorem factor_of {Y : Nat} {c g : List Rat} (tc : Trim c) (nc : c ≠ []) (l13 : c.length ≤ 13) (hc : Cw Y c) (tg : Trim g) (lg : ld g = 1) (hd : Df g (ev c)) : Cw (Y + 150) g ∧ g ≠ [] ∧ g.length ≤ 13 := by
  obtain ⟨ng, q, tq, nq, lq, eq⟩ := hd.len tg tc nc
  have := hc.factor tc nc l13 tg ng tq nq (fun x => by rw [eq, ev_mulP]; grind)
  rw [mon_self tg ng lg] at this
  have := List.length_pos_iff.mpr nq
  exact ⟨by assumption, ng, by omega⟩
omit h0 h1 h4 h6 h7 h8 h11 h12 h13 h14 h20 h21 in
theorem factor2 {Y : Nat} {c g : List Rat} (tc : Trim c) (nc : c ≠ []) (l13 : c.length ≤ 13) (hc : Cw Y c) (tg : Trim g) (lg : ld g = ld c) (hd : Df g (ev c)) : Cw (2 * Y + 150) g := by
  obtain ⟨ng, q, tq, nq, lq, eq⟩ := hd.len tg tc nc
  have h1 := hc.factor tc nc l13 tg ng tq nq (fun x => by rw [eq, ev_mulP]; grind)
  obtain ⟨m1, m2, m3, m4, m5, m6, m7⟩ := mon_ok tg ng
  have hl : ld g ≠ 0 := tg.top ng
  have h2 : 1 / ld g * ld g = 1 := by rw [Rat.div_def, Rat.one_mul, Rat.inv_mul_cancel _ hl]
  have e : g = sclP (mon g) (ld g) := ev_inj tg .sclP fun x => by rw [ev_sclP, m5, Rat.mul_assoc, h2, Rat.mul_one]
  have bl : Bd Y (ld c) := by
    have hY := hc.pos
    have : BL (Y - 1 + 1) c := BL.mono hc.bl (by omega)
    exact (Bd.ld this).mono (by omega)
  rw [← lg] at bl
  have h3 := h1.scl bl
  rw [← e] at h3
  exact h3.mono (by omega)
def spB : List S := [.set 3 (.call 23 [(.nm 2)]), .set 1 (.call 15 [(.nm 1), (.nm 3)]), .set 0 (.ix (.call 20 [(.nm 0), (.call 15 [(.nm 3), (.nm 3)])]) (.cst (.int 0))), .set 2 (.call 22 [(.nm 0), (.call 17 [(.nm 0)])])]
theorem sp_loop (h15 : FT 15 = some fd_product) (h17 : FT 17 = some fd_slope) (h22 : FT 22 = some fd_common) (h23 : FT 23 = some fd_plain) {N n Y : Nat} {c : List Rat} (tc : Trim c) (nc : c ≠ []) (hn : n ≤ 13) (l1 : c.length ≤ n) (hc : Cw Y c) (hY : Y ≤ 500000) (C2 : pell (n - 1) * (2 * (Y + 155)) ≤ 25000000) (C3 : pell (n - 2) * (2 * (2 * Y + 155)) ≤ 25000000) :
    ∀ (b : Nat) (curve root tw : List Rat) (z3 : Option (Val × Bool)), curve.length ≤ b → curve.length ≤ n → Trim curve → curve ≠ [] → Trim root → root ≠ [] → ld root = 1 → (∀ x, ev c x = ev root x * ev root x * ev curve x) → Gcd tw curve (slpR curve) → tw ≠ [] → ld tw = 1 →
    ∃ root' rest' y2 y3, whlO (callF FT (N + 8)) (.cmp .gt (.blt .len [(.bor 2)]) (.cst (.int 1))) spB [some (cv curve, false), some (cv root, false), some (cv tw, false), z3] = .nx [some (cv rest', false), some (cv root', false), y2, y3] ∧ Trim root' ∧ root' ≠ [] ∧ ld root' = 1 ∧ Trim rest' ∧ rest' ≠ [] ∧ (∀ x, ev c x = ev root' x * ev root' x * ev rest' x) ∧ Sq rest'
  | b, curve, root, tw, z3, hb, hcn, tcu, ncu, tr, nr, lr, eq, hg, ntw, ltw => by
    by_cases hl : tw.length ≤ 1
    · have hf : ¬ (1 : Int) < (tw.length : Int) := by omega
      exact ⟨root, curve, _, _, whlO_f (by clear eq hc tc; walk_at "evh"), tr, nr, lr, tcu, ncu, eq, sq_of_cop hg ntw hl⟩
    · have dcu : Df curve (ev c) := ⟨mulR root root, fun x => by rw [eq, ev_mulR]⟩
      have dro : Df root (ev c) := ⟨mulR root curve, fun x => by rw [eq, ev_mulR]; grind⟩
      have dtw : Df tw (ev c) := hg.a.trans dcu
      have lcu : ld curve = ld c := by
        have e : c = mulP (mulP root root) curve := ev_inj tc .mulP fun x => by rw [ev_mulP, ev_mulP]; exact eq x
        have n2 : mulP root root ≠ [] := fun z => by rw [z] at e; exact nc e
        rw [e, ld_mul h0 h1 h4 h6 h7 h8 h11 h12 h13 h14 h20 h21 Trim.mulP tcu n2 ncu, ld_mul h0 h1 h4 h6 h7 h8 h11 h12 h13 h14 h20 h21 tr tr nr nr, lr]; grind
      have ltwn : tw.length + 1 ≤ curve.length := by
        have nsl : slpR curve ≠ [] := fun z => by
          have h1 := slpR_len curve
          rw [z] at h1
          have := hg.a.le hg.t tcu ncu
          simp at h1; omega
        have := hg.b.le hg.t tcu.slp nsl
        rw [slpR_len] at this
        have := List.length_pos_iff.mpr ncu
        omega
      obtain ⟨ctw, _, _⟩ := factor_of tc nc (by omega) hc hg.t ltw dtw
      obtain ⟨part, ep, tp, np, lp, dp, sp, ap⟩ := callF_plain h0 h1 h4 h6 h7 h8 h11 h12 h13 h14 h20 h21 h17 h22 h23 (N := N) (n := n - 1) (Y := Y + 150) hg.t ntw (by omega) (by omega) ctw (by omega) C2
      have dpc : Df part (ev c) := dp.trans dtw
      have lpart : 1 < part.length := by
        obtain ⟨p, hp, hd⟩ := irr_ex tw.length tw (Nat.le_refl _) hg.t (by omega)
        have := (ap p hp hd).le hp.t tp np
        have := hp.g
        omega
      have d2 : Df (mulR part part) (ev curve) := sq_twice part.length part curve (Nat.le_refl _) tp np sp fun p hp hd => twice hp ((hd.trans dp).trans hg.a) ((hd.trans dp).trans hg.b)
      have dpp : Df (mulP part part) (ev curve) := by
        obtain ⟨k, hk⟩ := d2
        exact ⟨k, fun x => by rw [hk, ev_mulR, ev_mulP]⟩
      have lpp := mulP_len tp tp np np
      have npp : mulP part part ≠ [] := fun z => by rw [z] at lpp; simp at lpp; omega
      have lepp : ld (mulP part part) = 1 := by rw [ld_mul h0 h1 h4 h6 h7 h8 h11 h12 h13 h14 h20 h21 tp tp np np, lp]; grind
      have nrp : mulP root part ≠ [] := fun z => by
        have := mulP_len tr tp nr np
        rw [z] at this
        have := List.length_pos_iff.mpr nr
        simp at *; omega
      have lerp : ld (mulP root part) = 1 := by rw [ld_mul h0 h1 h4 h6 h7 h8 h11 h12 h13 h14 h20 h21 tr tp nr np, lr, lp]; grind
      obtain ⟨cpart, _, l13p⟩ := factor_of tc nc (by omega) hc tp lp dpc
      obtain ⟨croot, _, l13r⟩ := factor_of tc nc (by omega) hc tr lr dro
      obtain ⟨cpp, _, l13pp⟩ := factor_of tc nc (by omega) hc Trim.mulP lepp (dpp.trans dcu)
      have ccu := factor2 tc nc (by omega) hc tcu lcu dcu
      have bp : BL (Y + 149 + 1) part := BL.mono cpart.bl (by omega)
      have br : BL (Y + 149 + 1) root := BL.mono croot.bl (by omega)
      have hh := Nat.mul_le_mul_right (Y + 149 + (Y + 149) + 3) l13p
      have e1 : callF FT (N + 8) 15 [cv root, cv part] = _ := (callF_product h0 h1 h4 h6 h8 h15 (n := N + 4) br bp (by omega) (by omega) (by omega)).1
      have e2 : callF FT (N + 8) 15 [cv part, cv part] = _ := (callF_product h0 h1 h4 h6 h8 h15 (n := N + 4) bp bp (by omega) (by omega) (by omega)).1
      obtain ⟨q, e3, tq, eqq, _, lq⟩ := callF_exact h0 h1 h4 h6 h7 h8 h11 h12 h13 h14 h20 h21 (N := N + 2) tcu Trim.mulP npp (by omega) (by omega) ccu cpp dpp (by omega)
      have nq : q ≠ [] := fun z => ncu (ev_ne tcu fun x => by rw [eqq, z]; show (0 : Rat) * _ = 0; grind)
      have eq' : ∀ x, ev c x = ev (mulP root part) x * ev (mulP root part) x * ev q x := fun x => by
        rw [eq, eqq]; simp only [ev_mulP]; grind
      have dq : Df q (ev c) := ⟨mulR (mulP root part) (mulP root part), fun x => by rw [eq', ev_mulR]⟩
      have leq : ld q = ld c := by
        have e : curve = mulP q (mulP part part) := ev_inj tcu .mulP fun x => by rw [ev_mulP]; exact eqq x
        have := ld_mul h0 h1 h4 h6 h7 h8 h11 h12 h13 h14 h20 h21 tq Trim.mulP nq npp
        rw [← e, lepp, lcu] at this
        rw [this]; grind
      have cq := factor2 tc nc (by omega) hc tq leq dq
      have bq : BL (2 * Y + 149 + 1) q := BL.mono cq.bl (by omega)
      have e4 : callF FT (N + 8) 17 [cv q] = _ := callF_slope h0 h1 h6 h17 (n := N + 4) bq (by omega) (by omega)
      obtain ⟨tw', e5, hg', ntw', ltw'⟩ := callF_common h0 h1 h4 h6 h7 h8 h11 h12 h13 h14 h20 h21 h22 (N := N + 1) (n := n - 2) (Y := 2 * Y + 154) tq tq.slp (by omega) (by omega) (by rw [slpR_len]; omega) (cq.mono (by omega)) (cq.slp (by omega)) (.inl nq) C3
      cases b with
      | zero => have := List.length_pos_iff.mpr ncu; omega
      | succ b =>
        obtain ⟨root', rest', y2, y3, e6, g1, g2, g3, g4, g5, g6, g7⟩ := sp_loop h15 h17 h22 h23 (N := N) tc nc hn l1 hc hY C2 C3 b q (mulP root part) tw' (some (cv part, false)) (by omega) (by omega) tq nq Trim.mulP nrp lerp eq' hg' ntw' ltw'
        refine ⟨root', rest', y2, y3, ?_, g1, g2, g3, g4, g5, g6, g7⟩
        have hc1 : (1 : Int) < (tw.length : Int) := by omega
        have i0 : evIx (.tup [cv q, cv []]) (.int 0) = .ok (cv q) := rfl
        rw [← e6]
        clear e6 g1 g2 g3 g4 g5 g6 g7 C2 C3 hc ctw cpart croot cpp ccu cq bq bp br eq' eq dq d2 dpp dcu dro dtw dpc dp sp ap hg hg' tc tcu tr tq tp
        refine whlO_t (by walk_at "evh") ?_
        unfold spB
        generalize mulP root part = rp at *
        generalize mulP part part = pp at *
        generalize slpR q = sq at *
        walk_at "evh"
theorem callF_split (h15 : FT 15 = some fd_product) (h17 : FT 17 = some fd_slope) (h22 : FT 22 = some fd_common) (h23 : FT 23 = some fd_plain) (h24 : FT 24 = some fd_split) {N n Y : Nat} {c : List Rat} (tc : Trim c) (nc : c ≠ []) (hn : n ≤ 13) (l1 : c.length ≤ n) (hc : Cw Y c) (hY : Y ≤ 500000) (C1 : pell n * (2 * (Y + 5)) ≤ 25000000) (C2 : pell (n - 1) * (2 * (Y + 155)) ≤ 25000000) (C3 : pell (n - 2) * (2 * (2 * Y + 155)) ≤ 25000000) :
    ∃ root rest, callF FT (N + 9) 24 [cv c] = .ok (.tup [cv root, cv rest], false) ∧ Trim root ∧ root ≠ [] ∧ ld root = 1 ∧ Trim rest ∧ rest ≠ [] ∧ (∀ x, ev c x = ev root x * ev root x * ev rest x) ∧ Sq rest := by
  have hYp := hc.pos
  have bc : BL (Y - 1 + 1) c := BL.mono hc.bl (by omega)
  have c1 : callF FT (N + 8) 17 [cv c] = _ := callF_slope h0 h1 h6 h17 (n := N + 4) bc (by omega) (by omega)
  obtain ⟨tw, e2, hg, ntw, ltw⟩ := callF_common h0 h1 h4 h6 h7 h8 h11 h12 h13 h14 h20 h21 h22 (N := N + 1) (n := n) (Y := Y + 4) tc tc.slp hn l1 (by rw [slpR_len]; omega) (hc.mono (by omega)) (hc.slp (by omega)) (.inl nc) C1
  obtain ⟨root, rest, y2, y3, e, g1, g2, g3, g4, g5, g6, g7⟩ := sp_loop h0 h1 h4 h6 h7 h8 h11 h12 h13 h14 h20 h21 h15 h17 h22 h23 (N := N) tc nc hn l1 hc hY C2 C3 c.length c [1] tw none (Nat.le_refl _) l1 tc nc (Trim.last (l := []) (by decide)) (by simp) rfl (fun x => by rw [ev_one]; grind) hg ntw ltw
  refine ⟨root, rest, ?_, g1, g2, g3, g4, g5, g6, g7⟩
  rw [callF_s h24 rfl]
  have d : decide (c = []) = false := decide_eq_false nc
  have eb : fd_split.body = [.ifs (.cmp .eq (.bor 0) (.tup [])) [.rse 2] [], .set 1 (.tup [(.cst (.tup [(.int 1), (.int 1)]))]), .set 2 (.call 22 [(.nm 0), (.call 17 [(.nm 0)])]), .whl (.cmp .gt (.blt .len [(.bor 2)]) (.cst (.int 1))) spB, .ret (.tup [(.nm 1), (.nm 0)])] := rfl
  rw [eb, show fd_split.nl = 4 from rfl]
  clear eb g1 g2 g3 g4 g5 g6 g7 C1 C2 C3 hc bc hg tc
  generalize slpR c = s at *
  walk_at "evh"
end
end G

set_option linter.all false
set_option maxHeartbeats 2000000
set_option maxRecDepth 10000
namespace G.K11
open PySem G
local macro_rules | `(tactic| walk_at "ev") => `(tactic| simp only [vl_nm, vl_bor, vl_cst, vl_bin, vl_neg, vl_cmp, vl_isn, vl_chn, vl_inn, vl_and, vl_or, vl_not, vl_ifx, vl_ix, vl_slc, vl_rev, vl_tup, vl_lst, vl_call, vl_blt, vl_isi, vl_lc, ev_nm, ev_cst, ev_bin, ev_neg, ev_cmp, ev_isn, ev_chn, ev_inn, ev_and, ev_or, ev_not, ev_ifx, ev_ix, ev_slc, ev_rev, ev_tup, ev_lst, ev_call, ev_blt, ev_isi, ev_lc, evEs_nil, evEs_cons, evAs_nil, evAs_cons, evO_none, evO_some, evC_none, evC_some, evIt_val, evIt_rng1, evIt_rng2, evIt_rvd, evT_vl, andR_t, andR_f, orR_f, orR_t, ifxR_t, ifxR_f, chnR_t, chnR_f, ss_nil', ss_cons', thn_nx, thn_ret, thn_exc, thn_bad, s_set', set_ok, set_exc, s_unp', unp_ok, s_ifs', if_t, if_f, s_for', for_ok, s_whl', s_ret', s_retn', s_pass', s_rse', s_exp', s_try', try_nx, try_ret, try_exc, s_par', s_par3', s_six', s_app', s_pop', s_popu', s_rev', rO_ok, rO_exc, ret_nm, ret_bor, ret_cst, ret_bin, ret_neg, ret_cmp, ret_isn, ret_chn, ret_inn, ret_and, ret_or, ret_not, ret_ifx, ret_ix, ret_slc, ret_rev, ret_tup, ret_lst, ret_call, ret_blt, ret_isi, ret_lc, fin_nx, fin_ret, fin_exc, b_add, b_sub, b_mul, b_fdiv, b_mod, p11, p12, p30, p42, p57, p59, b_addL, b_addT, b_mulL, c_lt, c_le, c_gt, c_ge, truth_bl, toI_int, toB_bl, items_lst, items_tup, len_lst, len_tup, len_scr, abs_int, int_int, int_bl, list_lst, list_tup, list_scr, tuple_lst, tuple_tup, max_int, min_int, ix_p0, ix_p1, c_eqI, c_neI, startE, frzE, frzI, frzAll, frz, kept, keptL, keptO, keptI, put, look, lookF, ownL_s, ownS_lst, evCall, lent, borI, bind_one, bind_tup, putAll, isLst_int, isLst_bl, isLst_str, isLst_tup, isLst_non, isLst_scr, isLst_exc, isLst_lst, isNon_int, isNon_bl, isNon_str, isNon_tup, isNon_non, isNon_scr, isNon_exc, isNon_lst, R.bind_ok, R.bind_exc, R.map_ok, R.map_exc, List.map_cons, List.map_nil, List.length_cons, List.length_nil, List.replicate, List.cons_append, List.nil_append, List.append_nil, List.getElem?_cons_zero, List.getElem?_cons_succ, List.set_cons_zero, List.set_cons_succ, Bool.false_and, Bool.true_and, Bool.and_true, Bool.and_false, Bool.or_false, Bool.false_or, Bool.or_true, Bool.true_or, Bool.not_true, Bool.not_false, decide_true, decide_false, if_true, if_false, ite_true, ite_false, reduceCtorEq, reduceIte, Nat.reduceAdd, Nat.reduceSub, Nat.reduceMul, Nat.reduceEqDiff, Int.reduceEq, Int.reduceLT, Int.reduceLE, Int.reduceNe, Int.reduceNeg, Int.reduceAdd, Int.reduceMul, Int.reduceSub, Nat.reduceLT, Nat.reduceLeDiff, Int.reduceGT, Int.reduceGE, is_tup_tuple, is_tup_list, is_tup_int, is_tup_bool, is_tup_str, is_lst_tuple, is_lst_list, is_lst_int, is_lst_bool, is_lst_str, is_int_tuple, is_int_list, is_int_int, is_int_bool, is_int_str, is_bl_tuple, is_bl_list, is_bl_int, is_bl_bool, is_bl_str, is_str_tuple, is_str_list, is_str_int, is_str_bool, is_str_str, is_non_tuple, is_non_list, is_non_int, is_non_bool, is_non_str, forS_ok, forB_nx, forB_ret, forL_nil, lc_nil, Int.cast_ofNat_Int, lc_cons, vlE_d, lenOk0, lenOk1, lenOk2, lenOk3, wipe1, wipe2, R.noexc_ok, decide_eq_true_eq, eq_self, ix_nv0, ix_nv1, is_nv_tuple, is_cv_tuple, is_lv_list, is_lv_tuple, is_cv_list, isLst_nv, isLst_cv, isLst_lv, isNon_nv, isNon_cv, isNon_lv, bind_nv, items_cv, items_lv, len_cv, len_lv, list_cv, list_lv, tuple_cv, tuple_lv, c_eqN, c_neN, c_eqC, c_neC, c_eqL, c_neL, nv01, nv11, cv_nil, cv_one, rev_lv, rev_cv, lv_one, lv_map, cv_map, lenOk_map, List.length_map, ownS_lv, back_bl, back_int, back_nv, back_cv, back_lv, c_eqB, c_neB])
local macro_rules | `(tactic| walk_at "evh") => `(tactic| simp only [vl_nm, vl_bor, vl_cst, vl_bin, vl_neg, vl_cmp, vl_isn, vl_chn, vl_inn, vl_and, vl_or, vl_not, vl_ifx, vl_ix, vl_slc, vl_rev, vl_tup, vl_lst, vl_call, vl_blt, vl_isi, vl_lc, ev_nm, ev_cst, ev_bin, ev_neg, ev_cmp, ev_isn, ev_chn, ev_inn, ev_and, ev_or, ev_not, ev_ifx, ev_ix, ev_slc, ev_rev, ev_tup, ev_lst, ev_call, ev_blt, ev_isi, ev_lc, evEs_nil, evEs_cons, evAs_nil, evAs_cons, evO_none, evO_some, evC_none, evC_some, evIt_val, evIt_rng1, evIt_rng2, evIt_rvd, evT_vl, andR_t, andR_f, orR_f, orR_t, ifxR_t, ifxR_f, chnR_t, chnR_f, ss_nil', ss_cons', thn_nx, thn_ret, thn_exc, thn_bad, s_set', set_ok, set_exc, s_unp', unp_ok, s_ifs', if_t, if_f, s_for', for_ok, s_whl', s_ret', s_retn', s_pass', s_rse', s_exp', s_try', try_nx, try_ret, try_exc, s_par', s_par3', s_six', s_app', s_pop', s_popu', s_rev', rO_ok, rO_exc, ret_nm, ret_bor, ret_cst, ret_bin, ret_neg, ret_cmp, ret_isn, ret_chn, ret_inn, ret_and, ret_or, ret_not, ret_ifx, ret_ix, ret_slc, ret_rev, ret_tup, ret_lst, ret_call, ret_blt, ret_isi, ret_lc, fin_nx, fin_ret, fin_exc, b_add, b_sub, b_mul, b_fdiv, b_mod, p11, p12, p30, p42, p57, p59, b_addL, b_addT, b_mulL, c_lt, c_le, c_gt, c_ge, truth_bl, toI_int, toB_bl, items_lst, items_tup, len_lst, len_tup, len_scr, abs_int, int_int, int_bl, list_lst, list_tup, list_scr, tuple_lst, tuple_tup, max_int, min_int, ix_p0, ix_p1, c_eqI, c_neI, startE, frzE, frzI, frzAll, frz, kept, keptL, keptO, keptI, put, look, lookF, ownL_s, ownS_lst, evCall, lent, borI, bind_one, bind_tup, putAll, isLst_int, isLst_bl, isLst_str, isLst_tup, isLst_non, isLst_scr, isLst_exc, isLst_lst, isNon_int, isNon_bl, isNon_str, isNon_tup, isNon_non, isNon_scr, isNon_exc, isNon_lst, R.bind_ok, R.bind_exc, R.map_ok, R.map_exc, List.map_cons, List.map_nil, List.length_cons, List.length_nil, List.replicate, List.cons_append, List.nil_append, List.append_nil, List.getElem?_cons_zero, List.getElem?_cons_succ, List.set_cons_zero, List.set_cons_succ, Bool.false_and, Bool.true_and, Bool.and_true, Bool.and_false, Bool.or_false, Bool.false_or, Bool.or_true, Bool.true_or, Bool.not_true, Bool.not_false, decide_true, decide_false, if_true, if_false, ite_true, ite_false, reduceCtorEq, reduceIte, Nat.reduceAdd, Nat.reduceSub, Nat.reduceMul, Nat.reduceEqDiff, Int.reduceEq, Int.reduceLT, Int.reduceLE, Int.reduceNe, Int.reduceNeg, Int.reduceAdd, Int.reduceMul, Int.reduceSub, Nat.reduceLT, Nat.reduceLeDiff, Int.reduceGT, Int.reduceGE, is_tup_tuple, is_tup_list, is_tup_int, is_tup_bool, is_tup_str, is_lst_tuple, is_lst_list, is_lst_int, is_lst_bool, is_lst_str, is_int_tuple, is_int_list, is_int_int, is_int_bool, is_int_str, is_bl_tuple, is_bl_list, is_bl_int, is_bl_bool, is_bl_str, is_str_tuple, is_str_list, is_str_int, is_str_bool, is_str_str, is_non_tuple, is_non_list, is_non_int, is_non_bool, is_non_str, forS_ok, forB_nx, forB_ret, forL_nil, lc_nil, Int.cast_ofNat_Int, lc_cons, vlE_d, lenOk0, lenOk1, lenOk2, lenOk3, wipe1, wipe2, R.noexc_ok, decide_eq_true_eq, eq_self, ix_nv0, ix_nv1, is_nv_tuple, is_cv_tuple, is_lv_list, is_lv_tuple, is_cv_list, isLst_nv, isLst_cv, isLst_lv, isNon_nv, isNon_cv, isNon_lv, bind_nv, items_cv, items_lv, len_cv, len_lv, list_cv, list_lv, tuple_cv, tuple_lv, c_eqN, c_neN, c_eqC, c_neC, c_eqL, c_neL, nv01, nv11, cv_nil, cv_one, rev_lv, rev_cv, lv_one, lv_map, cv_map, lenOk_map, List.length_map, ownS_lv, back_bl, back_int, back_nv, back_cv, back_lv, c_eqB, c_neB, *])
def fd_law_curve : FD := ⟨3, 6, [.set 3 (.lst []), .for (.one 4) (.rng1 (.bin .add (.cst (.int 1)) (.bin .mod (.call 122 [(.nm 0), (.nm 1)]) (.bor 2)))) [.set 5 (.call 122 [(.nm 0), (.bin .add (.bin .add (.bor 1) (.cst (.int 1))) (.bor 4))]), .app 3 (.call 1 [(.bin .sub (.bin .mod (.bor 5) (.cst (.int 7))) (.cst (.int 3))), (.bin .add (.cst (.int 1)) (.bin .mod (.bin .fdiv (.bor 5) (.cst (.int 7))) (.cst (.int 2))))])], .ifs (.cmp .eq (.ix (.ix (.bor 3) (.neg (.cst (.int 1)))) (.cst (.int 0))) (.cst (.int 0))) [.six 3 (.neg (.cst (.int 1))) (.tup [(.cst (.int 1)), (.cst (.int 1))])] [], .ret (.blt .tuple [(.bor 3)])]⟩
def fd_law_divides : FD := ⟨2, 2, [.ret (.and (.cmp .ne (.bor 0) (.tup [])) (.cmp .eq (.ix (.call 20 [(.nm 1), (.nm 0)]) (.cst (.int 1))) (.tup [])))]⟩
def fd_law_common_right : FD := ⟨3, 6, [.set 3 (.call 22 [(.nm 0), (.nm 1)]), .ifs (.or (.cmp .eq (.bor 3) (.tup [])) (.or (.cmp .ne (.ix (.bor 3) (.neg (.cst (.int 1)))) (.tup [(.cst (.int 1)), (.cst (.int 1))])) (.or (.not (.call 151 [(.nm 3), (.nm 0)])) (.not (.call 151 [(.nm 3), (.nm 1)]))))) [.ret (.cst (.bl false))] [], .set 4 (.lst [(.ix (.call 20 [(.nm 0), (.nm 3)]) (.cst (.int 0))), (.ix (.call 20 [(.nm 1), (.nm 3)]) (.cst (.int 0)))]), .ifs (.or (.cmp .ne (.call 22 [(.ix (.bor 4) (.cst (.int 0))), (.ix (.bor 4) (.cst (.int 1)))]) (.tup [(.tup [(.cst (.int 1)), (.cst (.int 1))])])) (.not (.call 151 [(.nm 2), (.nm 3)]))) [.ret (.cst (.bl false))] [], .set 5 (.call 14 [(.nm 0), (.call 16 [(.nm 1), (.nm 2)])]), .ret (.and (.cmp .eq (.call 22 [(.nm 5), (.nm 1)]) (.bor 3)) (.cmp .eq (.call 22 [(.nm 1), (.nm 0)]) (.bor 3)))]⟩
def fd_law_plain_right : FD := ⟨1, 4, [.set 1 (.call 23 [(.nm 0)]), .ifs (.or (.cmp .ne (.ix (.bor 1) (.neg (.cst (.int 1)))) (.tup [(.cst (.int 1)), (.cst (.int 1))])) (.or (.not (.call 151 [(.nm 1), (.nm 0)])) (.cmp .ne (.call 22 [(.nm 1), (.call 17 [(.nm 1)])]) (.tup [(.tup [(.cst (.int 1)), (.cst (.int 1))])])))) [.ret (.cst (.bl false))] [], .set 2 (.nm 0), .whl (.cmp .gt (.blt .len [(.bor 2)]) (.cst (.int 1))) [.set 3 (.call 22 [(.nm 2), (.nm 1)]), .ifs (.cmp .eq (.bor 3) (.tup [(.tup [(.cst (.int 1)), (.cst (.int 1))])])) [.ret (.cst (.bl false))] [], .set 2 (.ix (.call 20 [(.nm 2), (.nm 3)]) (.cst (.int 0)))], .ret (.cmp .eq (.call 23 [(.call 12 [(.nm 0), (.tup [(.neg (.cst (.int 3))), (.cst (.int 2))])])]) (.bor 1))]⟩
def fd_law_split_right : FD := ⟨2, 5, [.unp [2, 3] (.call 24 [(.nm 0)]), .ifs (.or (.cmp .ne (.ix (.bor 2) (.neg (.cst (.int 1)))) (.tup [(.cst (.int 1)), (.cst (.int 1))])) (.cmp .ne (.call 16 [(.call 16 [(.nm 2), (.nm 2)]), (.nm 3)]) (.bor 0))) [.ret (.cst (.bl false))] [], .ifs (.or (.cmp .ne (.call 22 [(.nm 3), (.call 17 [(.nm 3)])]) (.tup [(.tup [(.cst (.int 1)), (.cst (.int 1))])])) (.not (.call 151 [(.nm 1), (.nm 2)]))) [.ret (.cst (.bl false))] [], .set 4 (.call 24 [(.call 12 [(.nm 0), (.tup [(.cst (.int 5)), (.cst (.int 3))])])]), .ret (.cmp .eq (.bor 4) (.tup [(.nm 2), (.call 12 [(.nm 3), (.tup [(.cst (.int 5)), (.cst (.int 3))])])]))]⟩
def fd_law : FD := ⟨1, 6, [.set 1 (.call 136 [(.nm 0), (.cst (.int 30)), (.cst (.int 3))]), .set 2 (.call 16 [(.call 136 [(.nm 0), (.cst (.int 10)), (.cst (.int 5))]), (.nm 1)]), .set 3 (.call 16 [(.call 136 [(.nm 0), (.cst (.int 20)), (.cst (.int 5))]), (.nm 1)]), .ifs (.not (.call 152 [(.nm 2), (.nm 3), (.nm 1)])) [.ret (.cst (.bl false))] [], .set 4 (.call 16 [(.call 136 [(.nm 0), (.cst (.int 40)), (.cst (.int 4))]), (.call 16 [(.nm 1), (.nm 1)])]), .set 5 (.call 23 [(.nm 1)]), .ifs (.or (.not (.call 151 [(.nm 5), (.call 23 [(.nm 2)])])) (.or (.not (.call 153 [(.nm 2)])) (.not (.call 153 [(.nm 4)])))) [.ret (.cst (.bl false))] [], .ret (.call 154 [(.nm 4), (.call 12 [(.nm 1), (.call 7 [(.tup [(.cst (.int 1)), (.cst (.int 1))]), (.ix (.bor 1) (.neg (.cst (.int 1))))])])])]⟩
def FT : Nat → Option FD := fun k => ([(0, fd_divisor_of), (1, fd_number), (4, fd_plus), (6, fd_times), (7, fd_over), (8, fd_without_noughts), (9, fd_curve_of), (11, fd_at_power), (12, fd_scaled), (13, fd_added), (14, fd_taken), (15, fd_product), (16, fd_multiplied), (17, fd_slope), (20, fd_divided), (21, fd_with_last_one), (22, fd_common), (23, fd_plain), (24, fd_split), (122, fd_law_mixed), (136, fd_law_curve), (151, fd_law_divides), (152, fd_law_common_right), (153, fd_law_plain_right), (154, fd_law_split_right), (127, fd_law)] : List (Nat × FD)).lookup k
theorem f0 : FT 0 = some fd_divisor_of := rfl
theorem f1 : FT 1 = some fd_number := rfl
theorem f4 : FT 4 = some fd_plus := rfl
theorem f6 : FT 6 = some fd_times := rfl
theorem f7 : FT 7 = some fd_over := rfl
theorem f8 : FT 8 = some fd_without_noughts := rfl
theorem f9 : FT 9 = some fd_curve_of := rfl
theorem f11 : FT 11 = some fd_at_power := rfl
theorem f12 : FT 12 = some fd_scaled := rfl
theorem f13 : FT 13 = some fd_added := rfl
theorem f14 : FT 14 = some fd_taken := rfl
theorem f15 : FT 15 = some fd_product := rfl
theorem f16 : FT 16 = some fd_multiplied := rfl
theorem f17 : FT 17 = some fd_slope := rfl
theorem f20 : FT 20 = some fd_divided := rfl
theorem f21 : FT 21 = some fd_with_last_one := rfl
theorem f22 : FT 22 = some fd_common := rfl
theorem f23 : FT 23 = some fd_plain := rfl
theorem f24 : FT 24 = some fd_split := rfl
theorem f122 : FT 122 = some fd_law_mixed := rfl
theorem f136 : FT 136 = some fd_law_curve := rfl
theorem f151 : FT 151 = some fd_law_divides := rfl
theorem f152 : FT 152 = some fd_law_common_right := rfl
theorem f153 : FT 153 = some fd_law_plain_right := rfl
theorem f154 : FT 154 = some fd_law_split_right := rfl
variable {N : Nat} {ns : List Int}
def cuB : List S := [.set 5 (.call 122 [(.nm 0), (.bin .add (.bin .add (.bor 1) (.cst (.int 1))) (.bor 4))]), .app 3 (.call 1 [(.bin .sub (.bin .mod (.bor 5) (.cst (.int 7))) (.cst (.int 3))), (.bin .add (.cst (.int 1)) (.bin .mod (.bin .fdiv (.bor 5) (.cst (.int 7))) (.cst (.int 2))))])]
theorem cu_loop {at' : Int} (a0 : 0 ≤ at') (a1 : at' < 1000) {x2 : Option (Val × Bool)} : ∀ (d k : Nat) (l : List Rat) (z4 z5 : Option (Val × Bool)), k + d ≤ 10 → l.length = k → BL 3 l →
    ∃ l' y4 y5, forL (.one 4) (fun env' => evSs (callF FT (N + 3)) cuB env') (rngV k d) [some (.scr ns, false), some (.int at', false), x2, some (lv l, true), z4, z5] = .nx [some (.scr ns, false), some (.int at', false), x2, some (lv l', true), y4, y5] ∧ l'.length = k + d ∧ BL 3 l'
  | 0, k, l, z4, z5, _, hl, bl => ⟨l, _, _, rfl, hl, bl⟩
  | d + 1, k, l, z4, z5, hk, hl, bl => by
    have e1 : callF FT (N + 3) 122 [.scr ns, .int (at' + 1 + (k : Int))] = _ := callF_mixed f122 (n := N + 2) (ns := ns) (k := at' + 1 + (k : Int)) (by omega) (by omega)
    generalize mx ns (at' + 1 + (k : Int)) = c at e1
    have b1 := fmod_bd c (b := 7) (by decide)
    have b2 := fmod_bd (c.fdiv 7) (b := 2) (by decide)
    have e2 : callF FT (N + 3) 1 [.int (c.fmod 7 - 3), .int (1 + (c.fdiv 7).fmod 2)] = _ := callF_number f0 f1 (n := N + 1) (t := c.fmod 7 - 3) (b := 1 + (c.fdiv 7).fmod 2) (by omega)
    have bq : Bd 3 (Rat.divInt (c.fmod 7 - 3) (1 + (c.fdiv 7).fmod 2)) := .divInt (by decide) (by show _ < 8; omega) (by show _ < 8; omega)
    generalize Rat.divInt (c.fmod 7 - 3) (1 + (c.fdiv 7).fmod 2) = q at *
    obtain ⟨l', y4, y5, e, g1, g2⟩ := cu_loop a0 a1 (x2 := x2) d (k + 1) (l ++ [q]) (some (.int k, false)) (some (.int c, false)) (by omega) (by rw [List.length_append, hl]; rfl) (bl.app (.cons bq .nil))
    refine ⟨l', y4, y5, ?_, by omega, g2⟩
    rw [rngV_succ, show (k : Int) + 1 = ((k + 1 : Nat) : Int) by omega, ← e]
    refine forL_cons (env1 := [some (.scr ns, false), some (.int at', false), x2, some (lv l, true), some (.int k, false), z5]) rfl ?_
    have ea : Val.lst (l.map nv ++ [nv q]) = lv (l ++ [q]) := by unfold lv; rw [List.map_append]; rfl
    have lo : lenOk (k + 1) = true := lenOk_lit (by omega)
    unfold cuB
    clear e g2 bq bl b1 b2
    generalize lv (l ++ [q]) = L at *
    walk_at "evh"
theorem callF_curve {at' : Int} {m : Nat} (a0 : 0 ≤ at') (a1 : at' < 1000) (hm : 0 < m) (h5 : m ≤ 5) : ∃ l, callF FT (N + 4) 136 [.scr ns, .int at', .int m] = .ok (cv l, false) ∧ Trim l ∧ l ≠ [] ∧ l.length ≤ m ∧ BL 3 l := by
  have e1 : callF FT (N + 3) 122 [.scr ns, .int at'] = _ := callF_mixed f122 (n := N + 2) (ns := ns) (k := at') a0 (by omega)
  generalize mx ns at' = c at e1
  have hmp : (0 : Int) < (m : Int) := by omega
  have hm0 : ¬ (m : Int) = 0 := by omega
  have b1 := fmod_bd c (b := (m : Int)) hmp
  obtain ⟨D, hD⟩ : ∃ D : Nat, 1 + c.fmod (m : Int) = D := ⟨(1 + c.fmod (m : Int)).toNat, by omega⟩
  obtain ⟨l, y4, y5, e, hl, bl⟩ := cu_loop (N := N) (ns := ns) a0 a1 (x2 := some (.int m, false)) D 0 [] none none (by omega) rfl .nil
  rw [show ((0 : Nat) : Int) = 0 from rfl] at e
  rcases List.eq_nil_or_concat l with rfl | ⟨t, a, rfl⟩
  · simp at hl; omega
  · rw [List.concat_eq_append] at e hl bl
    have r : rngOk (D : Int) = true := rng_ok (by omega)
    have et : (D : Int).toNat = D := Int.toNat_natCast _
    have il := ix_last (l := t) (q := a) (L := lv (t ++ [a])) (.inl rfl)
    have en : Val.lst [] = lv [] := rfl
    have hlt : (t ++ [a]).length = t.length + 1 := by rw [List.length_append]; rfl
    have eb : fd_law_curve.body = [.set 3 (.lst []), .for (.one 4) (.rng1 (.bin .add (.cst (.int 1)) (.bin .mod (.call 122 [(.nm 0), (.nm 1)]) (.bor 2)))) cuB, .ifs (.cmp .eq (.ix (.ix (.bor 3) (.neg (.cst (.int 1)))) (.cst (.int 0))) (.cst (.int 0))) [.six 3 (.neg (.cst (.int 1))) (.tup [(.cst (.int 1)), (.cst (.int 1))])] [], .ret (.blt .tuple [(.bor 3)])] := rfl
    by_cases ha : a = 0
    · have d : a.num = 0 := num_zero.mpr ha
      have ep : ixPut ((t ++ [a]).map nv) (-1) (nv 1) = .ok ((t ++ [1]).map nv) := by
        have : L2.ixN ((t ++ [a]).map nv).length (-1) = some t.length := by
          rw [List.length_map, hlt]
          unfold L2.ixN
          rw [if_neg (by decide)]
          simp; omega
        unfold ixPut
        rw [this]
        show R.ok (((t ++ [a]).map nv).set t.length (nv 1)) = _
        rw [List.map_append, List.map_append, List.set_append_right _ _ (by rw [List.length_map]; exact Nat.le_refl _), List.length_map, Nat.sub_self]; rfl
      refine ⟨t ++ [1], ?_, Trim.last (by decide), by simp, by rw [List.length_append]; show t.length + 1 ≤ m; omega, ?_⟩
      · rw [callF_s f136 rfl, eb, show fd_law_curve.nl = 6 from rfl]
        clear eb bl hl b1 ha
        generalize (t ++ [(1 : Rat)]) = X at *
        walk_at "evh"
      · exact BL.app (fun q hq => bl q (List.mem_append_left _ hq)) (.cons ⟨by decide, by decide⟩ .nil)
    · have d : ¬ a.num = 0 := fun z => ha (num_zero.mp z)
      refine ⟨t ++ [a], ?_, Trim.last ha, by simp, by omega, bl⟩
      rw [callF_s f136 rfl, eb, show fd_law_curve.nl = 6 from rfl]
      clear eb bl hl b1 ha
      generalize (t ++ [a]) = X at *
      walk_at "evh"
/-! ### a curve with its size -/
structure Gd (Y m : Nat) (q : List Rat) : Prop where
  t : Trim q
  n : q ≠ []
  l : q.length ≤ m
  c : Cw Y q
theorem Gd.bl {Y n : Nat} {l : List Rat} (h : Gd Y n l) : BL (Y - 1 + 1) l := BL.mono h.c.bl (by have := h.c.pos; omega)
theorem Gd.mul {A B n m : Nat} {l k : List Rat} (h : Gd A n l) (h' : Gd B m k) (hn : n ≤ 13) : Gd (A + B + 4) (n + m - 1) (mulP l k) ∧ (mulP l k).length + 1 = l.length + k.length := by
  have e := mulP_len h.t h'.t h.n h'.n
  have p1 := List.length_pos_iff.mpr h.n
  have p2 := List.length_pos_iff.mpr h'.n
  have a := h.l
  have b := h'.l
  exact ⟨⟨.mulP, fun z => by rw [z] at e; simp at e; omega, by omega, h.c.mul h'.c (by omega)⟩, by omega⟩
theorem callF_mul {A B n m : Nat} {l k : List Rat} (h : Gd A n l) (h' : Gd B m k) (hn : n + m ≤ 14) (hA : A ≤ 100000) (hB : B ≤ 100000) : callF FT (N + 5) 16 [cv l, cv k] = .ok (cv (mulP l k), false) := by
  have a := h.l
  have b := h'.l
  have e := callF_multiplied f0 f1 f4 f6 f8 f9 f15 f16 (n := N) h.bl h'.bl (by omega) (by omega) (by have := Nat.mul_le_mul_right (A - 1 + (B - 1) + 3) (show k.length ≤ 14 by omega); omega)
  have := mulP_le l k
  rw [if_pos (by omega)] at e
  exact e
theorem Cw.tak {A B : Nat} {l m : List Rat} (h1 : Cw A l) (h2 : Cw B m) : Cw (A + B + 1) (takP l m) := by
  obtain ⟨D, d0, d1, d2⟩ := h1
  obtain ⟨E, e0, e1, e2⟩ := h2
  refine ⟨D * E, Int.mul_ne_zero d0 e0, by rw [Int.natAbs_mul]; exact pow_up (lt_mul d1 e1) (by omega), fun k => ?_⟩
  obtain ⟨n, a, an⟩ := d2 k
  obtain ⟨m', b, bn⟩ := e2 k
  refine ⟨n * E - m' * D, ?_, natAbs_sub_lt (by rw [Int.natAbs_mul]; exact lt_mul an e1) (by rw [Int.natAbs_mul, Nat.add_comm]; exact lt_mul bn d1)⟩
  have ek : co (takP l m) k = co l k - co m k := by
    unfold takP
    rw [co_addP]
    unfold sclP
    rw [co_trim, co_scl]; grind
  rw [ek, Rat.intCast_mul, Rat.intCast_sub, Rat.intCast_mul, Rat.intCast_mul, ← a, ← b]; grind
/-- the part divides -/
theorem callF_divides {A B : Nat} {p c : List Rat} (tp : Trim p) (np : p ≠ []) (p13 : p.length ≤ 13) (cp : Cw B p) (tc : Trim c) (c13 : c.length ≤ 13) (cc : Cw A c) (hd : Df p (ev c)) (hB : A + 14 * (B + 1) ≤ 25000000) : callF FT (N + 7) 151 [cv p, cv c] = .ok (.bl true, false) := by
  obtain ⟨q, e, _⟩ := callF_exact f0 f1 f4 f6 f7 f8 f11 f12 f13 f14 f20 f21 (N := N) tc tp np c13 p13 cc cp hd hB
  rw [callF_s f151 rfl]
  have d1 : decide (p = []) = false := decide_eq_false np
  have d2 : decide (([] : List Rat) = []) = true := rfl
  have i1 : evIx (.tup [cv q, cv []]) (.int 1) = .ok (cv []) := rfl
  unfold fd_law_divides
  clear hd cc cp tc tp np
  walk_at "evh"
theorem cm {Y n : Nat} {one other : List Rat} (t1 : Trim one) (t2 : Trim other) (hn : n ≤ 13) (l1 : one.length ≤ n) (l2 : other.length ≤ n) (c1 : Cw Y one) (c2 : Cw Y other) (hne : one ≠ [] ∨ other ≠ []) (hW : pell n * (2 * (Y + 1)) ≤ 25000000) :
    ∃ g, callF FT (N + 7) 22 [cv one, cv other] = .ok (cv g, false) ∧ Gcd g one other ∧ g ≠ [] ∧ ld g = 1 := callF_common f0 f1 f4 f6 f7 f8 f11 f12 f13 f14 f20 f21 f22 t1 t2 hn l1 l2 c1 c2 hne hW
def crA : List S := [.set 3 (.call 22 [(.nm 0), (.nm 1)]), .ifs (.or (.cmp .eq (.bor 3) (.tup [])) (.or (.cmp .ne (.ix (.bor 3) (.neg (.cst (.int 1)))) (.tup [(.cst (.int 1)), (.cst (.int 1))])) (.or (.not (.call 151 [(.nm 3), (.nm 0)])) (.not (.call 151 [(.nm 3), (.nm 1)]))))) [.ret (.cst (.bl false))] [], .set 4 (.lst [(.ix (.call 20 [(.nm 0), (.nm 3)]) (.cst (.int 0))), (.ix (.call 20 [(.nm 1), (.nm 3)]) (.cst (.int 0)))])]
def crB : List S := [.ifs (.or (.cmp .ne (.call 22 [(.ix (.bor 4) (.cst (.int 0))), (.ix (.bor 4) (.cst (.int 1)))]) (.tup [(.tup [(.cst (.int 1)), (.cst (.int 1))])])) (.not (.call 151 [(.nm 2), (.nm 3)]))) [.ret (.cst (.bl false))] [], .set 5 (.call 14 [(.nm 0), (.call 16 [(.nm 1), (.nm 2)])]), .ret (.and (.cmp .eq (.call 22 [(.nm 5), (.nm 1)]) (.bor 3)) (.cmp .eq (.call 22 [(.nm 1), (.nm 0)]) (.bor 3)))]
theorem crfit : fd_law_common_right.body = crA ++ crB := rfl
/-- a quotient's size -/
theorem quo_cw {Y : Nat} {c g q : List Rat} (tc : Trim c) (nc : c ≠ []) (c13 : c.length ≤ 13) (hc : Cw Y c) (tg : Trim g) (ng : g ≠ []) (lg : ld g = 1) (tq : Trim q) (e : ∀ x, ev c x = ev q x * ev g x) : Cw (2 * Y + 150) q ∧ q ≠ [] := by
  have nq : q ≠ [] := fun z => nc (ev_ne tc fun x => by rw [e, z]; show (0 : Rat) * _ = 0; grind)
  refine ⟨factor2 tc nc c13 hc tq ?_ ⟨g, fun x => by rw [e]; grind⟩, nq⟩
  have e2 : c = mulP q g := ev_inj tc .mulP fun x => by rw [ev_mulP]; exact e x
  rw [e2, ld_mul f0 f1 f4 f6 f7 f8 f11 f12 f13 f14 f20 f21 tq tg nq ng, lg]; grind
theorem callF_cright {one other third : List Rat} (h1 : Gd 40 7 one) (h2 : Gd 40 7 other) (h3 : Gd 20 3 third) (d1 : Df third (ev one)) (d2 : Df third (ev other)) : callF FT (N + 9) 152 [cv one, cv other, cv third] = .ok (.bl true, false) := by
  have l1 := h1.l
  have l2 := h2.l
  have l3 := h3.l
  obtain ⟨g, e1, hg, ng, lg⟩ := cm (N := N + 1) (n := 7) h1.t h2.t (by decide) l1 l2 h1.c h2.c (.inl h1.n) (by decide)
  replace e1 : callF FT (N + 8) 22 [cv one, cv other] = _ := e1
  obtain ⟨cg, _, lg13⟩ := factor_of h1.t h1.n (by omega) h1.c hg.t lg hg.a
  have lg7 := hg.a.le hg.t h1.t h1.n
  have e2 : callF FT (N + 8) 151 [cv g, cv one] = _ := callF_divides (N := N + 1) hg.t ng lg13 cg h1.t (by omega) h1.c hg.a (by decide)
  have e3 : callF FT (N + 8) 151 [cv g, cv other] = _ := callF_divides (N := N + 1) hg.t ng lg13 cg h2.t (by omega) h2.c hg.b (by decide)
  obtain ⟨q1, e4, tq1, eq1, _, lq1⟩ := callF_exact f0 f1 f4 f6 f7 f8 f11 f12 f13 f14 f20 f21 (N := N + 2) h1.t hg.t ng (by omega) lg13 h1.c cg hg.a (by decide)
  obtain ⟨q2, e5, tq2, eq2, _, lq2⟩ := callF_exact f0 f1 f4 f6 f7 f8 f11 f12 f13 f14 f20 f21 (N := N + 2) h2.t hg.t ng (by omega) lg13 h2.c cg hg.b (by decide)
  obtain ⟨cq1, nq1⟩ := quo_cw h1.t h1.n (by omega) h1.c hg.t ng lg tq1 eq1
  obtain ⟨cq2, nq2⟩ := quo_cw h2.t h2.n (by omega) h2.c hg.t ng lg tq2 eq2
  have pg := List.length_pos_iff.mpr ng
  obtain ⟨g2, e6, hg2, ng2, lg2⟩ := cm (N := N + 1) (n := 7) tq1 tq2 (by decide) (by omega) (by omega) cq1 cq2 (.inl nq1) (by decide)
  replace e6 : callF FT (N + 8) 22 [cv q1, cv q2] = _ := e6
  have c12 := gcd_left hg ng eq1 eq2
  have one2 := c12.one hg2 ng2 lg2
  subst one2
  have d3 : Df third (ev g) := hg.l.df d1 d2
  have e7 : callF FT (N + 8) 151 [cv third, cv g] = _ := callF_divides (N := N + 1) h3.t h3.n (by omega) h3.c hg.t lg13 cg d3 (by decide)
  obtain ⟨hm, lm⟩ := h2.mul h3 (by decide)
  have e8 : callF FT (N + 8) 16 [cv other, cv third] = _ := callF_mul (N := N + 3) h2 h3 (by decide) (by decide) (by decide)
  have e9 : callF FT (N + 8) 14 [cv one, cv (mulP other third)] = _ := callF_taken f0 f1 f4 f6 f8 f11 f12 f13 f14 (n := N + 3) h1.bl hm.bl (by omega) (by have := hm.l; omega) (by decide)
  have cb := Cw.tak h1.c hm.c
  have lb : (takP one (mulP other third)).length ≤ 9 := Nat.le_trans (takP_len _ _) (by omega)
  have eb : ∀ x, ev (takP one (mulP other third)) x = ev one x - ev other x * ev third x := fun x => by rw [ev_takP, ev_mulP]
  obtain ⟨g3, e10, hg3, ng3, lg3⟩ := cm (N := N + 1) (n := 9) Trim.takP h2.t (by decide) lb (by omega) cb (h2.c.mono (by decide)) (.inr h2.n) (by decide)
  replace e10 : callF FT (N + 8) 22 [cv (takP one (mulP other third)), cv other] = _ := e10
  have a1 : Df g (ev (takP one (mulP other third))) := (hg.a.sub (hg.b.mulR third)).congr eb
  have a2 : Df g3 (ev one) := (hg3.a.add (hg3.b.mulR third)).congr fun x => by rw [eb]; grind
  have u3 : g3 = g := gcd_uniq hg3 hg ng3 ng lg3 lg a2 hg3.b a1 hg.b
  subst u3
  obtain ⟨g4, e11, hg4, ng4, lg4⟩ := cm (N := N + 1) (n := 7) h2.t h1.t (by decide) l2 l1 h2.c h1.c (.inl h2.n) (by decide)
  replace e11 : callF FT (N + 8) 22 [cv other, cv one] = _ := e11
  have u4 : g4 = g3 := gcd_uniq hg4 hg ng4 ng lg4 lg hg4.b hg4.a hg.b hg.a
  subst u4
  rw [callF_s f152 rfl, crfit, show startE fd_law_common_right.nl [cv one, cv other, cv third] = [some (cv one, false), some (cv other, false), some (cv third, false), none, none, none] from rfl, ss_app]
  have ix := ix_ld ng
  rw [lg] at ix
  have dg : decide (g4 = []) = false := decide_eq_false ng
  have dn : decide ((1 : Rat) = 1) = true := decide_eq_true rfl
  have j1 : evIx (.tup [cv q1, cv []]) (.int 0) = .ok (cv q1) := rfl
  have j2 : evIx (.tup [cv q2, cv []]) (.int 0) = .ok (cv q2) := rfl
  have eA : evSs (callF FT (N + 8)) crA [some (cv one, false), some (cv other, false), some (cv third, false), none, none, none] = .nx [some (cv one, false), some (cv other, false), some (cv third, false), some (cv g4, false), some (.lst [cv q1, cv q2], true), none] := by
    unfold crA
    clear h1 h2 h3 d1 d2 hg hg2 hg3 hg4 cg cq1 cq2 c12 d3 hm cb eb a1 a2 lb l1 l2 l3 lg7 lg13 lq1 lq2 eq1 eq2 lm e6 e7 e8 e9 e10 e11
    walk_at "evh"
  rw [eA, thn_nx]
  have k0 : evIx (.lst [cv q1, cv q2]) (.int 0) = .ok (cv q1) := rfl
  have k1 : evIx (.lst [cv q1, cv q2]) (.int 1) = .ok (cv q2) := rfl
  have d11 : decide (([1] : List Rat) = [1]) = true := decide_eq_true rfl
  unfold crB
  clear h1 h2 h3 d1 d2 hg hg2 hg3 hg4 cg cq1 cq2 c12 d3 hm cb eb a1 a2 lb l1 l2 l3 lg7 lg13 lq1 lq2 eq1 eq2 lm e1 e2 e3 e4 e5 eA
  generalize takP one (mulP other third) = bent at *
  generalize mulP other third = ot at *
  walk_at "evh"
/-! ### plain_right -/
theorem Gd.mono {A B n m : Nat} {l : List Rat} (h : Gd A n l) (h1 : A ≤ B) (h2 : n ≤ m) : Gd B m l := ⟨h.t, h.n, Nat.le_trans h.l h2, h.c.mono h1⟩
theorem pl {Y n : Nat} {c : List Rat} (h : Gd Y n c) (hn : n ≤ 13) (hY : Y ≤ 1000000) (hW : pell n * (2 * (Y + 5)) ≤ 25000000) :
    ∃ f, callF FT (N + 8) 23 [cv c] = .ok (cv f, false) ∧ Trim f ∧ f ≠ [] ∧ ld f = 1 ∧ Df f (ev c) ∧ Sq f ∧ ∀ p, Irr p → Df p (ev c) → Df p (ev f) := callF_plain f0 f1 f4 f6 f7 f8 f11 f12 f13 f14 f20 f21 f17 f22 f23 h.t h.n hn h.l h.c hY hW
theorem scl_df {c : List Rat} {s : Rat} (hs : s ≠ 0) (p : List Rat) : Df p (ev (sclP c s)) ↔ Df p (ev c) := by
  constructor
  · intro h
    refine (h.smul (1 / s)).congr fun x => ?_
    rw [ev_sclP]
    have : 1 / s * s = 1 := by rw [Rat.div_def, Rat.one_mul, Rat.inv_mul_cancel s hs]
    generalize 1 / s = r at *
    grind
  · intro h
    exact (h.smul s).congr fun x => by rw [ev_sclP]; grind
theorem scl_ne {c : List Rat} {s : Rat} (hs : s ≠ 0) (tc : Trim c) (nc : c ≠ []) : sclP c s ≠ [] ∧ (sclP c s).length ≤ c.length := by
  refine ⟨fun z => nc (ev_ne tc fun x => ?_), ?_⟩
  · have := ev_sclP (l := c) (c := s) (x := x)
    rw [z] at this
    have this : (0 : Rat) = ev c x * s := this
    rcases Rat.mul_eq_zero.mp this.symm with e | e
    · exact e
    · exact absurd e hs
  · refine Nat.le_trans (trim_len _) ?_
    unfold sclR
    rw [List.length_map]; exact Nat.le_refl _
theorem plain_uniq {f f2 c c2 : List Rat} (h : ∀ p, Df p (ev c) ↔ Df p (ev c2)) (t1 : Trim f) (n1 : f ≠ []) (l1 : ld f = 1) (d1 : Df f (ev c)) (s1 : Sq f) (a1 : ∀ p, Irr p → Df p (ev c) → Df p (ev f)) (t2 : Trim f2) (n2 : f2 ≠ []) (l2 : ld f2 = 1) (d2 : Df f2 (ev c2)) (s2 : Sq f2) (a2 : ∀ p, Irr p → Df p (ev c2) → Df p (ev f2)) : f = f2 :=
  mon_eq t1 t2 n1 n2 l1 l2 (sq_once f.length f f2 (Nat.le_refl _) t1 n1 s1 fun p hp hd => a2 p hp ((h p).mp (hd.trans d1))) (sq_once f2.length f2 f (Nat.le_refl _) t2 n2 s2 fun p hp hd => a1 p hp ((h p).mpr (hd.trans d2)))
def prL : List S := [.set 3 (.call 22 [(.nm 2), (.nm 1)]), .ifs (.cmp .eq (.bor 3) (.tup [(.tup [(.cst (.int 1)), (.cst (.int 1))])])) [.ret (.cst (.bl false))] [], .set 2 (.ix (.call 20 [(.nm 2), (.nm 3)]) (.cst (.int 0)))]
theorem pr_loop {Y : Nat} {c f : List Rat} (hY : Y ≤ 100) (h : Gd Y 8 c) (tf : Trim f) (nf : f ≠ []) (lf : ld f = 1) (df : Df f (ev c)) (af : ∀ p, Irr p → Df p (ev c) → Df p (ev f)) {x0 : Option (Val × Bool)} : ∀ (b : Nat) (left : List Rat) (z3 : Option (Val × Bool)), left.length ≤ b → Trim left → left ≠ [] → Df left (ev c) → ld left = ld c →
    ∃ y2 y3, whlO (callF FT (N + 8)) (.cmp .gt (.blt .len [(.bor 2)]) (.cst (.int 1))) prL [x0, some (cv f, false), some (cv left, false), z3] = .nx [x0, some (cv f, false), y2, y3]
  | b, left, z3, hb, tl, nl, dl, ll => by
    by_cases h1 : left.length ≤ 1
    · have hf : ¬ (1 : Int) < (left.length : Int) := by omega
      exact ⟨_, _, whlO_f (by clear dl df af h tf tl; walk_at "evh")⟩
    · have hc := h.l
      have l8 := dl.le tl h.t h.n
      have lf8 := df.le tf h.t h.n
      have cl := factor2 h.t h.n (by omega) h.c tl ll dl
      obtain ⟨cf, _, _⟩ := factor_of h.t h.n (by omega) h.c tf lf df
      have hw : pell 8 * (2 * (2 * Y + 150 + 1)) ≤ 25000000 := by
        have : pell 8 = 577 := rfl
        rw [this]; omega
      obtain ⟨g, e1, hg, ng, lg⟩ := cm (N := N + 1) (n := 8) tl tf (by decide) (by omega) (by omega) cl (cf.mono (by omega)) (.inl nl) hw
      have hgl : 1 < g.length := by
        obtain ⟨p, hp, hd⟩ := irr_ex left.length left (Nat.le_refl _) tl (by omega)
        have := (hg.l.df hd (af p hp (hd.trans dl))).le hp.t hg.t ng
        have := hp.g
        omega
      have d : decide (g = [1]) = false := decide_eq_false fun z => by rw [z] at hgl; simp at hgl
      obtain ⟨cg, _, lg13⟩ := factor_of h.t h.n (by omega) h.c hg.t lg (hg.a.trans dl)
      obtain ⟨q, e2, tq, eq, _, lq⟩ := callF_exact f0 f1 f4 f6 f7 f8 f11 f12 f13 f14 f20 f21 (N := N + 2) tl hg.t ng (by omega) lg13 cl cg hg.a (by omega)
      have nq : q ≠ [] := fun z => nl (ev_ne tl fun x => by rw [eq, z]; show (0 : Rat) * _ = 0; grind)
      have dq : Df q (ev left) := ⟨g, fun x => by rw [eq]; grind⟩
      have lq' : ld q = ld c := by
        have e : left = mulP q g := ev_inj tl .mulP fun x => by rw [ev_mulP]; exact eq x
        have := ld_mul f0 f1 f4 f6 f7 f8 f11 f12 f13 f14 f20 f21 tq hg.t nq ng
        rw [← e, lg, ll] at this
        rw [this]; grind
      cases b with
      | zero => omega
      | succ b =>
        obtain ⟨y2, y3, e3⟩ := pr_loop hY h tf nf lf df af (x0 := x0) b q (some (cv g, false)) (by omega) tq nq (dq.trans dl) lq'
        refine ⟨y2, y3, ?_⟩
        have hc1 : (1 : Int) < (left.length : Int) := by omega
        have i0 : evIx (.tup [cv q, cv []]) (.int 0) = .ok (cv q) := rfl
        replace e1 : callF FT (N + 8) 22 [cv left, cv f] = _ := e1
        rw [← e3]
        clear e3 hg cg cl cf eq dq dl df af h tf tl tq
        refine whlO_t (by walk_at "evh") ?_
        unfold prL
        walk_at "evh"
def q53 : Rat := ⟨5, 3, by decide, by decide⟩
def qm32 : Rat := ⟨-3, 2, by decide, by decide⟩
def prA : List S := [.set 1 (.call 23 [(.nm 0)]), .ifs (.or (.cmp .ne (.ix (.bor 1) (.neg (.cst (.int 1)))) (.tup [(.cst (.int 1)), (.cst (.int 1))])) (.or (.not (.call 151 [(.nm 1), (.nm 0)])) (.cmp .ne (.call 22 [(.nm 1), (.call 17 [(.nm 1)])]) (.tup [(.tup [(.cst (.int 1)), (.cst (.int 1))])])))) [.ret (.cst (.bl false))] [], .set 2 (.nm 0)]
theorem prfit : fd_law_plain_right.body = prA ++ [.whl (.cmp .gt (.blt .len [(.bor 2)]) (.cst (.int 1))) prL, .ret (.cmp .eq (.call 23 [(.call 12 [(.nm 0), (.tup [(.neg (.cst (.int 3))), (.cst (.int 2))])])]) (.bor 1))] := rfl
theorem callF_pright {Y : Nat} {c : List Rat} (hY : Y ≤ 100) (h : Gd Y 8 c) : callF FT (N + 9) 153 [cv c] = .ok (.bl true, false) := by
  have p8 : pell 8 = 577 := rfl
  have hc := h.l
  obtain ⟨f, e1, tf, nf, lf, df, sf, af⟩ := pl (N := N) h (by decide) (by omega) (by rw [p8]; omega)
  have lf8 := df.le tf h.t h.n
  obtain ⟨cf, _, _⟩ := factor_of h.t h.n (by omega) h.c tf lf df
  have e2 : callF FT (N + 8) 151 [cv f, cv c] = _ := callF_divides (N := N + 1) tf nf (by omega) cf h.t (by omega) h.c df (by omega)
  have bf : BL (Y + 149 + 1) f := BL.mono cf.bl (by omega)
  have e3 : callF FT (N + 8) 17 [cv f] = _ := callF_slope f0 f1 f6 f17 (n := N + 4) bf (by omega) (by omega)
  obtain ⟨g, e4, hg, ng, lg⟩ := cm (N := N + 1) (n := 8) (Y := Y + 154) tf tf.slp (by decide) (by omega) (by rw [slpR_len]; omega) (cf.mono (by omega)) (cf.slp (by omega)) (.inl nf) (by rw [p8]; omega)
  replace e4 : callF FT (N + 8) 22 [cv f, cv (slpR f)] = _ := e4
  have g1 : g = [1] := gcd_one hg ng lg (sf.cop tf nf hg)
  subst g1
  obtain ⟨y2, y3, e5⟩ := pr_loop (N := N) hY h tf nf lf df af (x0 := some (cv c, false)) c.length c none (Nat.le_refl _) h.t h.n (.refl c) rfl
  have hs : qm32 ≠ 0 := by decide
  have b32 : Bd 2 qm32 := ⟨by decide, by decide⟩
  obtain ⟨n2, l2⟩ := scl_ne hs h.t h.n
  have e6 : callF FT (N + 8) 12 [cv c, nv qm32] = _ := callF_scaled f0 f1 f6 f8 f12 (n := N + 4) h.bl b32 (by omega) (by omega)
  obtain ⟨f2, e7, t2, nn2, ll2, d2, s2, a2⟩ := pl (N := N) (n := 8) (Y := Y + 2) ⟨.sclP, n2, by omega, h.c.scl b32⟩ (by decide) (by omega) (by rw [p8]; omega)
  have u : f2 = f := (plain_uniq (c := c) (c2 := sclP c qm32) (fun p => (scl_df hs p).symm) tf nf lf df sf af t2 nn2 ll2 d2 s2 a2).symm
  subst u
  rw [callF_s f153 rfl, prfit, show startE fd_law_plain_right.nl [cv c] = [some (cv c, false), none, none, none] from rfl, ss_app]
  have ix := ix_ld nf
  rw [lf] at ix
  have d1 : decide (([1] : List Rat) = [1]) = true := decide_eq_true rfl
  have dn : decide ((1 : Rat) = 1) = true := decide_eq_true rfl
  have eA : evSs (callF FT (N + 8)) prA [some (cv c, false), none, none, none] = .nx [some (cv c, false), some (cv f2, false), some (cv c, false), none] := by
    unfold prA
    clear h tf nf lf df sf af cf bf hg t2 nn2 ll2 d2 s2 a2 e5 e6 e7 n2 hs b32
    generalize slpR f2 = s at *
    walk_at "evh"
  rw [eA, thn_nx]
  have n32 : Val.tup [.int (-3), .int 2] = nv qm32 := rfl
  have d3 : decide (f2 = f2) = true := decide_eq_true rfl
  clear h tf nf lf df sf af cf bf hg t2 nn2 ll2 d2 s2 a2 n2 hs b32 e1 e2 e3 e4 eA
  generalize sclP c qm32 = s at *
  walk_at "evh"
/-! ### split_right -/
def srA : List S := [.unp [2, 3] (.call 24 [(.nm 0)]), .ifs (.or (.cmp .ne (.ix (.bor 2) (.neg (.cst (.int 1)))) (.tup [(.cst (.int 1)), (.cst (.int 1))])) (.cmp .ne (.call 16 [(.call 16 [(.nm 2), (.nm 2)]), (.nm 3)]) (.bor 0))) [.ret (.cst (.bl false))] []]
def srB : List S := [.ifs (.or (.cmp .ne (.call 22 [(.nm 3), (.call 17 [(.nm 3)])]) (.tup [(.tup [(.cst (.int 1)), (.cst (.int 1))])])) (.not (.call 151 [(.nm 1), (.nm 2)]))) [.ret (.cst (.bl false))] [], .set 4 (.call 24 [(.call 12 [(.nm 0), (.tup [(.cst (.int 5)), (.cst (.int 3))])])]), .ret (.cmp .eq (.bor 4) (.tup [(.nm 2), (.call 12 [(.nm 3), (.tup [(.cst (.int 5)), (.cst (.int 3))])])]))]
theorem srfit : fd_law_split_right.body = srA ++ srB := rfl
theorem two_eq {a b : List Rat} : evCmp .eq (.tup [cv a, cv b]) (.tup [cv a, cv b]) = .ok (.bl true) := by
  have d : Dn 3 (.tup [cv a, cv b]) := Dn.tup fun x hx => by
    simp only [List.mem_cons, List.not_mem_nil, or_false] at hx
    rcases hx with rfl | rfl <;> exact Dn.cv _
  rw [c_eqV d d (by decide) (by decide), vEq_tup, vEqs_cons, vEqs_cons, vEqs_nil, vEq_cv, vEq_cv]
  simp
theorem callF_sright {c third : List Rat} (h : Gd 60 8 c) (h3 : Gd 20 3 third) (hw : ∃ w : List Rat, ∀ x, ev c x = ev third x * ev third x * ev w x) : callF FT (N + 10) 154 [cv c, cv third] = .ok (.bl true, false) := by
  have hc := h.l
  obtain ⟨root, rest, e1, tr, nr, lr, ts, ns', eq, sq⟩ := callF_split f0 f1 f4 f6 f7 f8 f11 f12 f13 f14 f20 f21 f15 f17 f22 f23 f24 (N := N) (n := 8) h.t h.n (by decide) h.l h.c (by decide) (by decide) (by decide) (by decide)
  have dro : Df root (ev c) := ⟨mulR root rest, fun x => by rw [eq, ev_mulR]; grind⟩
  have drs : Df rest (ev c) := ⟨mulR root root, fun x => by rw [eq, ev_mulR]⟩
  have em : c = mulP (mulP root root) rest := ev_inj h.t .mulP fun x => by rw [ev_mulP, ev_mulP]; exact eq x
  have nrr : mulP root root ≠ [] := fun z => by rw [z] at em; exact h.n em
  have l1 := mulP_len tr tr nr nr
  have l2 := mulP_len Trim.mulP ts nrr ns'
  rw [← em] at l2
  have p1 := List.length_pos_iff.mpr nr
  have p2 := List.length_pos_iff.mpr ns'
  have p3 := List.length_pos_iff.mpr nrr
  have lrs : ld rest = ld c := by
    rw [em, ld_mul f0 f1 f4 f6 f7 f8 f11 f12 f13 f14 f20 f21 Trim.mulP ts nrr ns', ld_mul f0 f1 f4 f6 f7 f8 f11 f12 f13 f14 f20 f21 tr tr nr nr, lr]; grind
  obtain ⟨cr, _, _⟩ := factor_of h.t h.n (by omega) h.c tr lr dro
  have cs := factor2 h.t h.n (by omega) h.c ts lrs drs
  have gr : Gd 210 4 root := ⟨tr, nr, by omega, cr⟩
  obtain ⟨grr, _⟩ := gr.mul gr (by decide)
  have e2 : callF FT (N + 9) 16 [cv root, cv root] = _ := callF_mul (N := N + 4) gr gr (by decide) (by decide) (by decide)
  have e3 : callF FT (N + 9) 16 [cv (mulP root root), cv rest] = _ := callF_mul (N := N + 4) (A := 424) (B := 270) (n := (mulP root root).length) (m := rest.length) ⟨.mulP, nrr, Nat.le_refl _, grr.c⟩ ⟨ts, ns', Nat.le_refl _, cs⟩ (by omega) (by decide) (by decide)
  rw [← em] at e3
  have bs : BL (269 + 1) rest := cs.bl
  have e4 : callF FT (N + 9) 17 [cv rest] = _ := callF_slope f0 f1 f6 f17 (n := N + 5) bs (by omega) (by omega)
  obtain ⟨g, e5, hg, ng, lg⟩ := cm (N := N + 2) (n := 8) (Y := 274) ts ts.slp (by decide) (by omega) (by rw [slpR_len]; omega) (cs.mono (by decide)) (cs.slp (by omega)) (.inl ns') (by decide)
  replace e5 : callF FT (N + 9) 22 [cv rest, cv (slpR rest)] = _ := e5
  have cop : g.length ≤ 1 := sq.cop ts ns' hg
  have g1 : g = [1] := gcd_one hg ng lg cop
  subst g1
  obtain ⟨w, hw⟩ := hw
  have d3 : Df third (ev root) := root_has third.length third root rest w (Nat.le_refl _) h3.t h3.n tr nr sq fun x => by rw [← eq, hw]
  have l3 := h3.l
  have e6 : callF FT (N + 9) 151 [cv third, cv root] = _ := callF_divides (N := N + 2) h3.t h3.n (by omega) h3.c tr (by omega) cr d3 (by decide)
  have hs : q53 ≠ 0 := by decide
  have b53 : Bd 3 q53 := ⟨by decide, by decide⟩
  obtain ⟨n2, ll2⟩ := scl_ne hs h.t h.n
  obtain ⟨n3, _⟩ := scl_ne hs ts ns'
  have e7 : callF FT (N + 9) 12 [cv c, nv q53] = _ := callF_scaled f0 f1 f6 f8 f12 (n := N + 5) h.bl b53 (by omega) (by omega)
  have e8 : callF FT (N + 9) 12 [cv rest, nv q53] = _ := callF_scaled f0 f1 f6 f8 f12 (n := N + 5) bs b53 (by omega) (by omega)
  obtain ⟨root2, rest2, e9, tr2, nr2, lr2, ts2, ns2, eq2, sq2⟩ := callF_split f0 f1 f4 f6 f7 f8 f11 f12 f13 f14 f20 f21 f15 f17 f22 f23 f24 (N := N) (n := 8) (c := sclP c q53) .sclP n2 (by decide) (by omega) (h.c.scl b53) (by decide) (by decide) (by decide) (by decide)
  have hi : 1 / q53 * q53 = 1 := by rw [Rat.div_def, Rat.one_mul, Rat.inv_mul_cancel _ hs]
  have a1 : Df root (ev root2) := root_has root.length root root2 rest2 (sclR q53 rest) (Nat.le_refl _) tr nr tr2 nr2 sq2 fun x => by
    rw [← eq2, ev_sclP, eq, ev_scl]; grind
  have a2 : Df root2 (ev root) := root_has root2.length root2 root rest (sclR (1 / q53) rest2) (Nat.le_refl _) tr2 nr2 tr nr sq fun x => by
    have := eq2 x
    rw [ev_sclP] at this
    rw [← eq, ev_scl]
    generalize 1 / q53 = s at *
    grind
  have u1 : root = root2 := mon_eq tr tr2 nr nr2 lr lr2 a1 a2
  subst u1
  have u2 : rest2 = sclP rest q53 := ev_inj ts2 .sclP fun x => by
    refine cancel (a := mulP root root) Trim.mulP nrr (fun x => ?_) x
    have := eq2 x
    rw [ev_sclP, eq] at this
    rw [ev_mulP, ev_sclP, ← this]; grind
  subst u2
  rw [callF_s f154 rfl, srfit, show startE fd_law_split_right.nl [cv c, cv third] = [some (cv c, false), some (cv third, false), none, none, none] from rfl, ss_app]
  have ix := ix_ld nr
  rw [lr] at ix
  have dn : decide ((1 : Rat) = 1) = true := decide_eq_true rfl
  have dc : decide (c = c) = true := decide_eq_true rfl
  have d1 : decide (([1] : List Rat) = [1]) = true := decide_eq_true rfl
  have eA : evSs (callF FT (N + 9)) srA [some (cv c, false), some (cv third, false), none, none, none] = .nx [some (cv c, false), some (cv third, false), some (cv root, false), some (cv rest, false), none] := by
    unfold srA
    clear h h3 hw d3 tr nr lr ts ns' eq sq dro drs em nrr lrs cr cs gr grr bs hg cop hs b53 n2 n3 tr2 nr2 ts2 ns2 eq2 sq2 hi a1 a2 e4 e5 e6 e7 e8 e9
    generalize mulP root root = rr at *
    walk_at "evh"
  rw [eA, thn_nx]
  have n53 : Val.tup [.int 5, .int 3] = nv q53 := rfl
  have te := two_eq (a := root) (b := sclP rest q53)
  unfold srB
  clear h h3 hw d3 tr nr lr ts ns' eq sq dro drs em nrr lrs cr cs gr grr bs hg cop hs b53 n2 n3 tr2 nr2 ts2 ns2 eq2 sq2 hi a1 a2 e1 e2 e3 eA
  generalize sclP rest q53 = r2 at *
  generalize sclP c q53 = c2 at *
  generalize slpR rest = sl at *
  walk_at "evh"
/-! ### the law -/
def lawA : List S := [.set 1 (.call 136 [(.nm 0), (.cst (.int 30)), (.cst (.int 3))]), .set 2 (.call 16 [(.call 136 [(.nm 0), (.cst (.int 10)), (.cst (.int 5))]), (.nm 1)]), .set 3 (.call 16 [(.call 136 [(.nm 0), (.cst (.int 20)), (.cst (.int 5))]), (.nm 1)]), .ifs (.not (.call 152 [(.nm 2), (.nm 3), (.nm 1)])) [.ret (.cst (.bl false))] []]
def lawB : List S := [.set 4 (.call 16 [(.call 136 [(.nm 0), (.cst (.int 40)), (.cst (.int 4))]), (.call 16 [(.nm 1), (.nm 1)])]), .set 5 (.call 23 [(.nm 1)]), .ifs (.or (.not (.call 151 [(.nm 5), (.call 23 [(.nm 2)])])) (.or (.not (.call 153 [(.nm 2)])) (.not (.call 153 [(.nm 4)])))) [.ret (.cst (.bl false))] []]
def lawC : List S := [.ret (.call 154 [(.nm 4), (.call 12 [(.nm 1), (.call 7 [(.tup [(.cst (.int 1)), (.cst (.int 1))]), (.ix (.bor 1) (.neg (.cst (.int 1))))])])])]
theorem lfit : fd_law.body = lawA ++ (lawB ++ lawC) := rfl
theorem drawn {at' : Int} {m : Nat} (a0 : 0 ≤ at') (a1 : at' < 1000) (hm : 0 < m) (h5 : m ≤ 5) : ∃ l, callF FT (N + 4) 136 [.scr ns, .int at', .int m] = .ok (cv l, false) ∧ Gd 16 m l := by
  obtain ⟨l, e, t, n, hl, bl⟩ := callF_curve (N := N) (ns := ns) a0 a1 hm h5
  exact ⟨l, e, t, n, hl, (Cw.of bl).mono (by omega)⟩
theorem plain (ns : List Int) (hl : ns.length ≤ 63) (hb : ∀ z ∈ ns, Builtin.Int.intBits z ≤ 1048576) : ∃ fr, callF FT 20 127 [.scr ns] = .ok (.bl true, fr) := by
  refine ⟨false, ?_⟩
  obtain ⟨third, e1, h3⟩ := drawn (N := 15) (ns := ns) (at' := 30) (m := 3) (by decide) (by decide) (by decide) (by decide)
  obtain ⟨a, e2, ha⟩ := drawn (N := 15) (ns := ns) (at' := 10) (m := 5) (by decide) (by decide) (by decide) (by decide)
  obtain ⟨b, e3, hb'⟩ := drawn (N := 15) (ns := ns) (at' := 20) (m := 5) (by decide) (by decide) (by decide) (by decide)
  obtain ⟨d, e4, hd⟩ := drawn (N := 15) (ns := ns) (at' := 40) (m := 4) (by decide) (by decide) (by decide) (by decide)
  replace e1 : callF FT 19 136 [.scr ns, .int 30, .int 3] = _ := e1
  replace e2 : callF FT 19 136 [.scr ns, .int 10, .int 5] = _ := e2
  replace e3 : callF FT 19 136 [.scr ns, .int 20, .int 5] = _ := e3
  replace e4 : callF FT 19 136 [.scr ns, .int 40, .int 4] = _ := e4
  obtain ⟨g1, _⟩ := ha.mul h3 (by decide)
  obtain ⟨g2, _⟩ := hb'.mul h3 (by decide)
  obtain ⟨g33, _⟩ := h3.mul h3 (by decide)
  obtain ⟨g4, _⟩ := hd.mul g33 (by decide)
  have m1 : callF FT 19 16 [cv a, cv third] = _ := callF_mul (N := 14) ha h3 (by decide) (by decide) (by decide)
  have m2 : callF FT 19 16 [cv b, cv third] = _ := callF_mul (N := 14) hb' h3 (by decide) (by decide) (by decide)
  have m3 : callF FT 19 16 [cv third, cv third] = _ := callF_mul (N := 14) h3 h3 (by decide) (by decide) (by decide)
  have m4 : callF FT 19 16 [cv d, cv (mulP third third)] = _ := callF_mul (N := 14) hd g33 (by decide) (by decide) (by decide)
  have e1' : ∀ x, ev (mulP a third) x = ev a x * ev third x := fun x => ev_mulP
  have e2' : ∀ x, ev (mulP b third) x = ev b x * ev third x := fun x => ev_mulP
  have e4' : ∀ x, ev (mulP d (mulP third third)) x = ev d x * (ev third x * ev third x) := fun x => by rw [ev_mulP, ev_mulP]
  have h1 : Gd 40 7 (mulP a third) := g1.mono (by decide) (by decide)
  have h2 : Gd 40 7 (mulP b third) := g2.mono (by decide) (by decide)
  have h4 : Gd 60 8 (mulP d (mulP third third)) := g4.mono (by decide) (by decide)
  generalize mulP d (mulP third third) = tw at *
  generalize mulP a third = one at *
  generalize mulP b third = other at *
  have h3' : Gd 20 3 third := h3.mono (by decide) (by decide)
  have c1 : callF FT 19 152 [cv one, cv other, cv third] = _ := callF_cright (N := 10) h1 h2 h3' ⟨a, e1'⟩ ⟨b, e2'⟩
  have eA : evSs (callF FT 19) lawA [some (.scr ns, false), none, none, none, none, none] = .nx [some (.scr ns, false), some (cv third, false), some (cv one, false), some (cv other, false), none, none] := by
    unfold lawA
    clear h1 h2 h3 h3' h4 g1 g2 g33 g4 e1' e2' e4' ha hb' hd m3 m4
    walk_at "evh"
  obtain ⟨f3, p1, tf3, nf3, lf3, df3, sf3, af3⟩ := pl (N := 11) h3' (by decide) (by decide) (by decide)
  obtain ⟨fo, p2, tfo, nfo, lfo, dfo, sfo, afo⟩ := pl (N := 11) h1 (by decide) (by decide) (by decide)
  replace p1 : callF FT 19 23 [cv third] = _ := p1
  replace p2 : callF FT 19 23 [cv one] = _ := p2
  have l3 := h3'.l
  have l1 := h1.l
  obtain ⟨cf3, _, lf3'⟩ := factor_of h3'.t h3'.n (by omega) h3'.c tf3 lf3 df3
  obtain ⟨cfo, _, lfo'⟩ := factor_of h1.t h1.n (by omega) h1.c tfo lfo dfo
  have d31 : Df f3 (ev fo) := sq_once f3.length f3 fo (Nat.le_refl _) tf3 nf3 sf3 fun p hp hd => afo p hp ((hd.trans df3).trans ⟨a, e1'⟩)
  have c2 : callF FT 19 151 [cv f3, cv fo] = _ := callF_divides (N := 12) tf3 nf3 lf3' cf3 tfo lfo' cfo d31 (by decide)
  have c3 : callF FT 19 153 [cv one] = _ := callF_pright (N := 10) (Y := 40) (by decide) (h1.mono (Nat.le_refl _) (by decide))
  have c4 : callF FT 19 153 [cv tw] = _ := callF_pright (N := 10) (Y := 60) (by decide) h4
  have eB : evSs (callF FT 19) lawB [some (.scr ns, false), some (cv third, false), some (cv one, false), some (cv other, false), none, none] = .nx [some (.scr ns, false), some (cv third, false), some (cv one, false), some (cv other, false), some (cv tw, false), some (cv f3, false)] := by
    unfold lawB
    clear h1 h2 h3 h3' h4 g1 g2 g33 g4 e1' e2' e4' ha hb' hd m1 m2 c1 eA df3 sf3 af3 dfo sfo afo cf3 cfo d31 tf3 nf3 tfo nfo lf3 lfo
    generalize mulP third third = tt at *
    walk_at "evh"
  obtain ⟨w1, w2, w3, w4, w5, w6, w7⟩ := mon_ok h3'.t h3'.n
  have bo : Bd 1 (1 : Rat) := ⟨by decide, by decide⟩
  have b3 := h3'.bl
  have c5 : callF FT 19 7 [nv 1, nv (ld third)] = _ := callF_over f0 f1 f7 (n := 16) (h3'.t.top h3'.n) bo (Bd.ld b3) (by decide)
  have c6 : callF FT 19 12 [cv third, nv (1 / ld third)] = _ := callF_scaled f0 f1 f6 f8 f12 (n := 15) b3 (bo.div (Bd.ld b3)) (by omega) (by decide)
  have em : sclP third (1 / ld third) = mon third := (if_neg h3'.n).symm
  rw [em] at c6
  have c7 : callF FT 19 154 [cv tw, cv (mon third)] = _ := callF_sright (N := 9) h4 ⟨w1, w2, by omega, h3'.c.mon h3'.t h3'.n⟩ (by
    obtain ⟨k, hk⟩ := w6
    exact ⟨mulR d (mulR k k), fun x => by rw [e4', hk]; simp only [ev_mulR]; grind⟩)
  rw [callF_s (d := fd_law) rfl rfl, lfit, show startE fd_law.nl [.scr ns] = [some (.scr ns, false), none, none, none, none, none] from rfl, ss_app, eA, thn_nx, ss_app, eB, thn_nx]
  have ix := ix_ld h3'.n
  unfold lawC
  clear h1 h2 h3 h3' h4 g1 g2 g33 g4 e1' e2' e4' ha hb' hd m1 m2 m3 m4 c1 eA eB df3 sf3 af3 dfo sfo afo cf3 cfo d31 tf3 nf3 tfo nfo lf3 lfo w1 w2 w3 w4 w5 w6 w7 bo b3 em
  generalize 1 / ld third = s at *
  generalize ld third = s2 at *
  generalize mon third = s3 at *
  walk_at "evh"
end G.K11

set_option maxHeartbeats 4000000
namespace G.K11
open PySem PySem.Spec PyProof.Rows L2 HT G
def top (i : Nat) : Stmt := PySem.Challenge.pw_neverbelow_k11_whole_parts_of_any_curves.main.body.getD i (.Pass ⟨0, 0, 0, 0⟩)
def TT : TC := ⟨[(("divisor_of" : Str), (0, 2)), (("number" : Str), (1, 2)), (("plus" : Str), (4, 2)), (("times" : Str), (6, 2)), (("over" : Str), (7, 2)), (("without_noughts" : Str), (8, 1)), (("curve_of" : Str), (9, 1)), (("at_power" : Str), (11, 2)), (("scaled" : Str), (12, 2)), (("added" : Str), (13, 2)), (("taken" : Str), (14, 2)), (("product" : Str), (15, 2)), (("multiplied" : Str), (16, 2)), (("slope" : Str), (17, 1)), (("divided" : Str), (20, 2)), (("with_last_one" : Str), (21, 1)), (("common" : Str), (22, 2)), (("plain" : Str), (23, 1)), (("split" : Str), (24, 1)), (("_law_mixed" : Str), (122, 2)), (("_law_curve" : Str), (136, 3)), (("_law_divides" : Str), (151, 2)), (("_law_common_right" : Str), (152, 3)), (("_law_plain_right" : Str), (153, 1)), (("_law_split_right" : Str), (154, 2)), (("law" : Str), (127, 1))],
  [(("MOST_NUMBERS" : Str), .int (13)), (("NOUGHT" : Str), .tup [.int (0), .int (1)]), (("ONE" : Str), .tup [.int (1), .int (1)])],
  [(("BelowError" : Str), 0), (("NoNumber" : Str), 1), (("NoCurve" : Str), 2), (("TooGreat" : Str), 3)],
  []⟩
theorem dt_divisor_of : DTx TT FT 0 "divisor_of" (top 6) [("one" : Str), ("other" : Str)] [("one" : Str), ("other" : Str)] fd_divisor_of := ⟨⟨rfl, rfl, rfl, by decide +kernel, rfl, by decide +kernel, by decide +kernel⟩, fun _ _ _ _ _ _ us hl => match us, hl with | [_, _], _ => rfl, rfl, rfl, by kernel_rfl, rfl⟩
theorem dt_number : DTx TT FT 1 "number" (top 7) [("top" : Str), ("bottom" : Str), ("by" : Str)] [("top" : Str), ("bottom" : Str)] fd_number := ⟨⟨rfl, rfl, rfl, by decide +kernel, rfl, by decide +kernel, by decide +kernel⟩, fun _ _ _ _ _ _ us hl => match us, hl with | [_, _], _ => rfl, rfl, rfl, by kernel_rfl, rfl⟩
theorem dt_plus : DTx TT FT 4 "plus" (top 8) [("one" : Str), ("other" : Str)] [("one" : Str), ("other" : Str)] fd_plus := ⟨⟨rfl, rfl, rfl, by decide +kernel, rfl, by decide +kernel, by decide +kernel⟩, fun _ _ _ _ _ _ us hl => match us, hl with | [_, _], _ => rfl, rfl, rfl, by kernel_rfl, rfl⟩
theorem dt_times : DTx TT FT 6 "times" (top 9) [("one" : Str), ("other" : Str)] [("one" : Str), ("other" : Str)] fd_times := ⟨⟨rfl, rfl, rfl, by decide +kernel, rfl, by decide +kernel, by decide +kernel⟩, fun _ _ _ _ _ _ us hl => match us, hl with | [_, _], _ => rfl, rfl, rfl, by kernel_rfl, rfl⟩
theorem dt_over : DTx TT FT 7 "over" (top 10) [("one" : Str), ("other" : Str)] [("one" : Str), ("other" : Str)] fd_over := ⟨⟨rfl, rfl, rfl, by decide +kernel, rfl, by decide +kernel, by decide +kernel⟩, fun _ _ _ _ _ _ us hl => match us, hl with | [_, _], _ => rfl, rfl, rfl, by kernel_rfl, rfl⟩
theorem dt_without_noughts : DTx TT FT 8 "without_noughts" (top 15) [("numbers" : Str), ("many" : Str)] [("numbers" : Str)] fd_without_noughts := ⟨⟨rfl, rfl, rfl, by decide +kernel, rfl, by decide +kernel, by decide +kernel⟩, fun _ _ _ _ _ _ us hl => match us, hl with | [_], _ => rfl, rfl, rfl, by kernel_rfl, rfl⟩
theorem dt_curve_of : DTx TT FT 9 "curve_of" (top 16) [("numbers" : Str), ("found" : Str)] [("numbers" : Str)] fd_curve_of := ⟨⟨rfl, rfl, rfl, by decide +kernel, rfl, by decide +kernel, by decide +kernel⟩, fun _ _ _ _ _ _ us hl => match us, hl with | [_], _ => rfl, rfl, rfl, by kernel_rfl, rfl⟩
theorem dt_at_power : DTx TT FT 11 "at_power" (top 17) [("curve" : Str), ("k" : Str)] [("curve" : Str), ("k" : Str)] fd_at_power := ⟨⟨rfl, rfl, rfl, by decide +kernel, rfl, by decide +kernel, by decide +kernel⟩, fun _ _ _ _ _ _ us hl => match us, hl with | [_, _], _ => rfl, rfl, rfl, by kernel_rfl, rfl⟩
theorem dt_scaled : DTx TT FT 12 "scaled" (top 18) [("curve" : Str), ("k" : Str), ("one" : Str)] [("curve" : Str), ("k" : Str)] fd_scaled := ⟨⟨rfl, rfl, rfl, by decide +kernel, rfl, by decide +kernel, by decide +kernel⟩, fun _ _ _ _ _ _ us hl => match us, hl with | [_, _], _ => rfl, rfl, rfl, by kernel_rfl, rfl⟩
theorem dt_added : DTx TT FT 13 "added" (top 19) [("one" : Str), ("other" : Str), ("many" : Str), ("k" : Str)] [("one" : Str), ("other" : Str)] fd_added := ⟨⟨rfl, rfl, rfl, by decide +kernel, rfl, by decide +kernel, by decide +kernel⟩, fun _ _ _ _ _ _ us hl => match us, hl with | [_, _], _ => rfl, rfl, rfl, by kernel_rfl, rfl⟩
theorem dt_taken : DTx TT FT 14 "taken" (top 20) [("one" : Str), ("other" : Str)] [("one" : Str), ("other" : Str)] fd_taken := ⟨⟨rfl, rfl, rfl, by decide +kernel, rfl, by decide +kernel, by decide +kernel⟩, fun _ _ _ _ _ _ us hl => match us, hl with | [_, _], _ => rfl, rfl, rfl, by kernel_rfl, rfl⟩
theorem dt_product : DTx TT FT 15 "product" (top 21) [("one" : Str), ("other" : Str), ("found" : Str), ("j" : Str), ("k" : Str)] [("one" : Str), ("other" : Str)] fd_product := ⟨⟨rfl, rfl, rfl, by decide +kernel, rfl, by decide +kernel, by decide +kernel⟩, fun _ _ _ _ _ _ us hl => match us, hl with | [_, _], _ => rfl, rfl, rfl, by kernel_rfl, rfl⟩
theorem dt_multiplied : DTx TT FT 16 "multiplied" (top 22) [("one" : Str), ("other" : Str)] [("one" : Str), ("other" : Str)] fd_multiplied := ⟨⟨rfl, rfl, rfl, by decide +kernel, rfl, by decide +kernel, by decide +kernel⟩, fun _ _ _ _ _ _ us hl => match us, hl with | [_, _], _ => rfl, rfl, rfl, by kernel_rfl, rfl⟩
theorem dt_slope : DTx TT FT 17 "slope" (top 23) [("curve" : Str), ("k" : Str)] [("curve" : Str)] fd_slope := ⟨⟨rfl, rfl, rfl, by decide +kernel, rfl, by decide +kernel, by decide +kernel⟩, fun _ _ _ _ _ _ us hl => match us, hl with | [_], _ => rfl, rfl, rfl, by kernel_rfl, rfl⟩
theorem dt_divided : DTx TT FT 20 "divided" (top 24) [("curve" : Str), ("by" : Str), ("quotient" : Str), ("rest" : Str), ("at" : Str), ("part" : Str), ("one" : Str)] [("curve" : Str), ("by" : Str)] fd_divided := ⟨⟨rfl, rfl, rfl, by decide +kernel, rfl, by decide +kernel, by decide +kernel⟩, fun _ _ _ _ _ _ us hl => match us, hl with | [_, _], _ => rfl, rfl, rfl, by kernel_rfl, rfl⟩
theorem dt_with_last_one : DTx TT FT 21 "with_last_one" (top 26) [("curve" : Str)] [("curve" : Str)] fd_with_last_one := ⟨⟨rfl, rfl, rfl, by decide +kernel, rfl, by decide +kernel, by decide +kernel⟩, fun _ _ _ _ _ _ us hl => match us, hl with | [_], _ => rfl, rfl, rfl, by kernel_rfl, rfl⟩
theorem dt_common : DTx TT FT 22 "common" (top 27) [("one" : Str), ("other" : Str)] [("one" : Str), ("other" : Str)] fd_common := ⟨⟨rfl, rfl, rfl, by decide +kernel, rfl, by decide +kernel, by decide +kernel⟩, fun _ _ _ _ _ _ us hl => match us, hl with | [_, _], _ => rfl, rfl, rfl, by kernel_rfl, rfl⟩
theorem dt_plain : DTx TT FT 23 "plain" (top 28) [("curve" : Str)] [("curve" : Str)] fd_plain := ⟨⟨rfl, rfl, rfl, by decide +kernel, rfl, by decide +kernel, by decide +kernel⟩, fun _ _ _ _ _ _ us hl => match us, hl with | [_], _ => rfl, rfl, rfl, by kernel_rfl, rfl⟩
theorem dt_split : DTx TT FT 24 "split" (top 29) [("curve" : Str), ("root" : Str), ("twofold" : Str), ("part" : Str)] [("curve" : Str)] fd_split := ⟨⟨rfl, rfl, rfl, by decide +kernel, rfl, by decide +kernel, by decide +kernel⟩, fun _ _ _ _ _ _ us hl => match us, hl with | [_], _ => rfl, rfl, rfl, by kernel_rfl, rfl⟩
theorem dt_law_mixed : DTx TT FT 122 "_law_mixed" (top 31) [("_law_script" : Str), ("_law_k" : Str), ("_law_cell" : Str)] [("_law_script" : Str), ("_law_k" : Str)] fd_law_mixed := ⟨⟨rfl, rfl, rfl, by decide +kernel, rfl, by decide +kernel, by decide +kernel⟩, fun _ _ _ _ _ _ us hl => match us, hl with | [_, _], _ => rfl, rfl, rfl, by kernel_rfl, rfl⟩
theorem dt_law_curve : DTx TT FT 136 "_law_curve" (top 32) [("_law_script" : Str), ("_law_at" : Str), ("_law_most" : Str), ("_law_some" : Str), ("_law_k" : Str), ("_law_cell" : Str)] [("_law_script" : Str), ("_law_at" : Str), ("_law_most" : Str)] fd_law_curve := ⟨⟨rfl, rfl, rfl, by decide +kernel, rfl, by decide +kernel, by decide +kernel⟩, fun _ _ _ _ _ _ us hl => match us, hl with | [_, _, _], _ => rfl, rfl, rfl, by kernel_rfl, rfl⟩
theorem dt_law_divides : DTx TT FT 151 "_law_divides" (top 33) [("_law_part" : Str), ("_law_curve_here" : Str)] [("_law_part" : Str), ("_law_curve_here" : Str)] fd_law_divides := ⟨⟨rfl, rfl, rfl, by decide +kernel, rfl, by decide +kernel, by decide +kernel⟩, fun _ _ _ _ _ _ us hl => match us, hl with | [_, _], _ => rfl, rfl, rfl, by kernel_rfl, rfl⟩
theorem dt_law_common_right : DTx TT FT 152 "_law_common_right" (top 34) [("_law_one" : Str), ("_law_other" : Str), ("_law_third" : Str), ("_law_found" : Str), ("_law_left" : Str), ("_law_bent" : Str)] [("_law_one" : Str), ("_law_other" : Str), ("_law_third" : Str)] fd_law_common_right := ⟨⟨rfl, rfl, rfl, by decide +kernel, rfl, by decide +kernel, by decide +kernel⟩, fun _ _ _ _ _ _ us hl => match us, hl with | [_, _, _], _ => rfl, rfl, rfl, by kernel_rfl, rfl⟩
theorem dt_law_plain_right : DTx TT FT 153 "_law_plain_right" (top 35) [("_law_curve_here" : Str), ("_law_found" : Str), ("_law_left" : Str), ("_law_part" : Str)] [("_law_curve_here" : Str)] fd_law_plain_right := ⟨⟨rfl, rfl, rfl, by decide +kernel, rfl, by decide +kernel, by decide +kernel⟩, fun _ _ _ _ _ _ us hl => match us, hl with | [_], _ => rfl, rfl, rfl, by kernel_rfl, rfl⟩
theorem dt_law_split_right : DTx TT FT 154 "_law_split_right" (top 36) [("_law_curve_here" : Str), ("_law_third" : Str), ("_law_root" : Str), ("_law_rest" : Str), ("_law_again" : Str)] [("_law_curve_here" : Str), ("_law_third" : Str)] fd_law_split_right := ⟨⟨rfl, rfl, rfl, by decide +kernel, rfl, by decide +kernel, by decide +kernel⟩, fun _ _ _ _ _ _ us hl => match us, hl with | [_, _], _ => rfl, rfl, rfl, by kernel_rfl, rfl⟩
theorem dt_law : DTx TT FT 127 "law" (top 37) [("_law_script" : Str), ("_law_third" : Str), ("_law_one" : Str), ("_law_other" : Str), ("_law_twofold" : Str), ("_law_third_plain" : Str)] [("_law_script" : Str)] fd_law := ⟨⟨rfl, rfl, rfl, by decide +kernel, rfl, by decide +kernel, by decide +kernel⟩, fun _ _ _ _ _ _ us hl => match us, hl with | [_], _ => rfl, rfl, rfl, by kernel_rfl, rfl⟩
theorem all_mk {w : World} {K : PySem.W.Frag} {h : Heap} {mg : Str → Option Value} {fa : Addr} (X : K.In h) (G : h.Ns mainGlobals mg) (hfa : mg "law" = some (.ref fa)) {fd0 : Addr} {ocd0 kVd0 dcd0 pmd0 cdd0 ctd0 : Value} {odd0 and0 : Option Addr} {sld0 : Array (Option Value)} (ad0 : PySem.W.nsIn K mainGlobals "divisor_of" = some (some (.ref fd0))) (ld0 : K.lookup fd0 = some ⟨ocd0, odd0, .func (PySem.W.fnOf "divisor_of" "divisor_of" (defArgs (top 6)) (defBody (top 6)) (defScope (top 6)) .none kVd0 dcd0 pmd0 and0 cdd0 ctd0), sld0⟩) (cd0 : PySem.W.codeIn K cdd0 "divisor_of" = true) (kd0 : PySem.W.keepIn K (.ref fd0) = true) {fd1 : Addr} {ocd1 kVd1 dcd1 pmd1 cdd1 ctd1 : Value} {odd1 and1 : Option Addr} {sld1 : Array (Option Value)} (ad1 : PySem.W.nsIn K mainGlobals "number" = some (some (.ref fd1))) (ld1 : K.lookup fd1 = some ⟨ocd1, odd1, .func (PySem.W.fnOf "number" "number" (defArgs (top 7)) (defBody (top 7)) (defScope (top 7)) .none kVd1 dcd1 pmd1 and1 cdd1 ctd1), sld1⟩) (cd1 : PySem.W.codeIn K cdd1 "number" = true) (kd1 : PySem.W.keepIn K (.ref fd1) = true) {fd2 : Addr} {ocd2 kVd2 dcd2 pmd2 cdd2 ctd2 : Value} {odd2 and2 : Option Addr} {sld2 : Array (Option Value)} (ad2 : PySem.W.nsIn K mainGlobals "plus" = some (some (.ref fd2))) (ld2 : K.lookup fd2 = some ⟨ocd2, odd2, .func (PySem.W.fnOf "plus" "plus" (defArgs (top 8)) (defBody (top 8)) (defScope (top 8)) .none kVd2 dcd2 pmd2 and2 cdd2 ctd2), sld2⟩) (cd2 : PySem.W.codeIn K cdd2 "plus" = true) (kd2 : PySem.W.keepIn K (.ref fd2) = true) {fd3 : Addr} {ocd3 kVd3 dcd3 pmd3 cdd3 ctd3 : Value} {odd3 and3 : Option Addr} {sld3 : Array (Option Value)} (ad3 : PySem.W.nsIn K mainGlobals "times" = some (some (.ref fd3))) (ld3 : K.lookup fd3 = some ⟨ocd3, odd3, .func (PySem.W.fnOf "times" "times" (defArgs (top 9)) (defBody (top 9)) (defScope (top 9)) .none kVd3 dcd3 pmd3 and3 cdd3 ctd3), sld3⟩) (cd3 : PySem.W.codeIn K cdd3 "times" = true) (kd3 : PySem.W.keepIn K (.ref fd3) = true) {fd4 : Addr} {ocd4 kVd4 dcd4 pmd4 cdd4 ctd4 : Value} {odd4 and4 : Option Addr} {sld4 : Array (Option Value)} (ad4 : PySem.W.nsIn K mainGlobals "over" = some (some (.ref fd4))) (ld4 : K.lookup fd4 = some ⟨ocd4, odd4, .func (PySem.W.fnOf "over" "over" (defArgs (top 10)) (defBody (top 10)) (defScope (top 10)) .none kVd4 dcd4 pmd4 and4 cdd4 ctd4), sld4⟩) (cd4 : PySem.W.codeIn K cdd4 "over" = true) (kd4 : PySem.W.keepIn K (.ref fd4) = true) {fd5 : Addr} {ocd5 kVd5 dcd5 pmd5 cdd5 ctd5 : Value} {odd5 and5 : Option Addr} {sld5 : Array (Option Value)} (ad5 : PySem.W.nsIn K mainGlobals "without_noughts" = some (some (.ref fd5))) (ld5 : K.lookup fd5 = some ⟨ocd5, odd5, .func (PySem.W.fnOf "without_noughts" "without_noughts" (defArgs (top 15)) (defBody (top 15)) (defScope (top 15)) .none kVd5 dcd5 pmd5 and5 cdd5 ctd5), sld5⟩) (cd5 : PySem.W.codeIn K cdd5 "without_noughts" = true) (kd5 : PySem.W.keepIn K (.ref fd5) = true) {fd6 : Addr} {ocd6 kVd6 dcd6 pmd6 cdd6 ctd6 : Value} {odd6 and6 : Option Addr} {sld6 : Array (Option Value)} (ad6 : PySem.W.nsIn K mainGlobals "curve_of" = some (some (.ref fd6))) (ld6 : K.lookup fd6 = some ⟨ocd6, odd6, .func (PySem.W.fnOf "curve_of" "curve_of" (defArgs (top 16)) (defBody (top 16)) (defScope (top 16)) .none kVd6 dcd6 pmd6 and6 cdd6 ctd6), sld6⟩) (cd6 : PySem.W.codeIn K cdd6 "curve_of" = true) (kd6 : PySem.W.keepIn K (.ref fd6) = true) {fd7 : Addr} {ocd7 kVd7 dcd7 pmd7 cdd7 ctd7 : Value} {odd7 and7 : Option Addr} {sld7 : Array (Option Value)} (ad7 : PySem.W.nsIn K mainGlobals "at_power" = some (some (.ref fd7))) (ld7 : K.lookup fd7 = some ⟨ocd7, odd7, .func (PySem.W.fnOf "at_power" "at_power" (defArgs (top 17)) (defBody (top 17)) (defScope (top 17)) .none kVd7 dcd7 pmd7 and7 cdd7 ctd7), sld7⟩) (cd7 : PySem.W.codeIn K cdd7 "at_power" = true) (kd7 : PySem.W.keepIn K (.ref fd7) = true) {fd8 : Addr} {ocd8 kVd8 dcd8 pmd8 cdd8 ctd8 : Value} {odd8 and8 : Option Addr} {sld8 : Array (Option Value)} (ad8 : PySem.W.nsIn K mainGlobals "scaled" = some (some (.ref fd8))) (ld8 : K.lookup fd8 = some ⟨ocd8, odd8, .func (PySem.W.fnOf "scaled" "scaled" (defArgs (top 18)) (defBody (top 18)) (defScope (top 18)) .none kVd8 dcd8 pmd8 and8 cdd8 ctd8), sld8⟩) (cd8 : PySem.W.codeIn K cdd8 "scaled" = true) (kd8 : PySem.W.keepIn K (.ref fd8) = true) {fd9 : Addr} {ocd9 kVd9 dcd9 pmd9 cdd9 ctd9 : Value} {odd9 and9 : Option Addr} {sld9 : Array (Option Value)} (ad9 : PySem.W.nsIn K mainGlobals "added" = some (some (.ref fd9))) (ld9 : K.lookup fd9 = some ⟨ocd9, odd9, .func (PySem.W.fnOf "added" "added" (defArgs (top 19)) (defBody (top 19)) (defScope (top 19)) .none kVd9 dcd9 pmd9 and9 cdd9 ctd9), sld9⟩) (cd9 : PySem.W.codeIn K cdd9 "added" = true) (kd9 : PySem.W.keepIn K (.ref fd9) = true) {fd10 : Addr} {ocd10 kVd10 dcd10 pmd10 cdd10 ctd10 : Value} {odd10 and10 : Option Addr} {sld10 : Array (Option Value)} (ad10 : PySem.W.nsIn K mainGlobals "taken" = some (some (.ref fd10))) (ld10 : K.lookup fd10 = some ⟨ocd10, odd10, .func (PySem.W.fnOf "taken" "taken" (defArgs (top 20)) (defBody (top 20)) (defScope (top 20)) .none kVd10 dcd10 pmd10 and10 cdd10 ctd10), sld10⟩) (cd10 : PySem.W.codeIn K cdd10 "taken" = true) (kd10 : PySem.W.keepIn K (.ref fd10) = true) {fd11 : Addr} {ocd11 kVd11 dcd11 pmd11 cdd11 ctd11 : Value} {odd11 and11 : Option Addr} {sld11 : Array (Option Value)} (ad11 : PySem.W.nsIn K mainGlobals "product" = some (some (.ref fd11))) (ld11 : K.lookup fd11 = some ⟨ocd11, odd11, .func (PySem.W.fnOf "product" "product" (defArgs (top 21)) (defBody (top 21)) (defScope (top 21)) .none kVd11 dcd11 pmd11 and11 cdd11 ctd11), sld11⟩) (cd11 : PySem.W.codeIn K cdd11 "product" = true) (kd11 : PySem.W.keepIn K (.ref fd11) = true) {fd12 : Addr} {ocd12 kVd12 dcd12 pmd12 cdd12 ctd12 : Value} {odd12 and12 : Option Addr} {sld12 : Array (Option Value)} (ad12 : PySem.W.nsIn K mainGlobals "multiplied" = some (some (.ref fd12))) (ld12 : K.lookup fd12 = some ⟨ocd12, odd12, .func (PySem.W.fnOf "multiplied" "multiplied" (defArgs (top 22)) (defBody (top 22)) (defScope (top 22)) .none kVd12 dcd12 pmd12 and12 cdd12 ctd12), sld12⟩) (cd12 : PySem.W.codeIn K cdd12 "multiplied" = true) (kd12 : PySem.W.keepIn K (.ref fd12) = true) {fd13 : Addr} {ocd13 kVd13 dcd13 pmd13 cdd13 ctd13 : Value} {odd13 and13 : Option Addr} {sld13 : Array (Option Value)} (ad13 : PySem.W.nsIn K mainGlobals "slope" = some (some (.ref fd13))) (ld13 : K.lookup fd13 = some ⟨ocd13, odd13, .func (PySem.W.fnOf "slope" "slope" (defArgs (top 23)) (defBody (top 23)) (defScope (top 23)) .none kVd13 dcd13 pmd13 and13 cdd13 ctd13), sld13⟩) (cd13 : PySem.W.codeIn K cdd13 "slope" = true) (kd13 : PySem.W.keepIn K (.ref fd13) = true) {fd14 : Addr} {ocd14 kVd14 dcd14 pmd14 cdd14 ctd14 : Value} {odd14 and14 : Option Addr} {sld14 : Array (Option Value)} (ad14 : PySem.W.nsIn K mainGlobals "divided" = some (some (.ref fd14))) (ld14 : K.lookup fd14 = some ⟨ocd14, odd14, .func (PySem.W.fnOf "divided" "divided" (defArgs (top 24)) (defBody (top 24)) (defScope (top 24)) .none kVd14 dcd14 pmd14 and14 cdd14 ctd14), sld14⟩) (cd14 : PySem.W.codeIn K cdd14 "divided" = true) (kd14 : PySem.W.keepIn K (.ref fd14) = true) {fd15 : Addr} {ocd15 kVd15 dcd15 pmd15 cdd15 ctd15 : Value} {odd15 and15 : Option Addr} {sld15 : Array (Option Value)} (ad15 : PySem.W.nsIn K mainGlobals "with_last_one" = some (some (.ref fd15))) (ld15 : K.lookup fd15 = some ⟨ocd15, odd15, .func (PySem.W.fnOf "with_last_one" "with_last_one" (defArgs (top 26)) (defBody (top 26)) (defScope (top 26)) .none kVd15 dcd15 pmd15 and15 cdd15 ctd15), sld15⟩) (cd15 : PySem.W.codeIn K cdd15 "with_last_one" = true) (kd15 : PySem.W.keepIn K (.ref fd15) = true) {fd16 : Addr} {ocd16 kVd16 dcd16 pmd16 cdd16 ctd16 : Value} {odd16 and16 : Option Addr} {sld16 : Array (Option Value)} (ad16 : PySem.W.nsIn K mainGlobals "common" = some (some (.ref fd16))) (ld16 : K.lookup fd16 = some ⟨ocd16, odd16, .func (PySem.W.fnOf "common" "common" (defArgs (top 27)) (defBody (top 27)) (defScope (top 27)) .none kVd16 dcd16 pmd16 and16 cdd16 ctd16), sld16⟩) (cd16 : PySem.W.codeIn K cdd16 "common" = true) (kd16 : PySem.W.keepIn K (.ref fd16) = true) {fd17 : Addr} {ocd17 kVd17 dcd17 pmd17 cdd17 ctd17 : Value} {odd17 and17 : Option Addr} {sld17 : Array (Option Value)} (ad17 : PySem.W.nsIn K mainGlobals "plain" = some (some (.ref fd17))) (ld17 : K.lookup fd17 = some ⟨ocd17, odd17, .func (PySem.W.fnOf "plain" "plain" (defArgs (top 28)) (defBody (top 28)) (defScope (top 28)) .none kVd17 dcd17 pmd17 and17 cdd17 ctd17), sld17⟩) (cd17 : PySem.W.codeIn K cdd17 "plain" = true) (kd17 : PySem.W.keepIn K (.ref fd17) = true) {fd18 : Addr} {ocd18 kVd18 dcd18 pmd18 cdd18 ctd18 : Value} {odd18 and18 : Option Addr} {sld18 : Array (Option Value)} (ad18 : PySem.W.nsIn K mainGlobals "split" = some (some (.ref fd18))) (ld18 : K.lookup fd18 = some ⟨ocd18, odd18, .func (PySem.W.fnOf "split" "split" (defArgs (top 29)) (defBody (top 29)) (defScope (top 29)) .none kVd18 dcd18 pmd18 and18 cdd18 ctd18), sld18⟩) (cd18 : PySem.W.codeIn K cdd18 "split" = true) (kd18 : PySem.W.keepIn K (.ref fd18) = true) {fd19 : Addr} {ocd19 kVd19 dcd19 pmd19 cdd19 ctd19 : Value} {odd19 and19 : Option Addr} {sld19 : Array (Option Value)} (ad19 : PySem.W.nsIn K mainGlobals "_law_mixed" = some (some (.ref fd19))) (ld19 : K.lookup fd19 = some ⟨ocd19, odd19, .func (PySem.W.fnOf "_law_mixed" "_law_mixed" (defArgs (top 31)) (defBody (top 31)) (defScope (top 31)) .none kVd19 dcd19 pmd19 and19 cdd19 ctd19), sld19⟩) (cd19 : PySem.W.codeIn K cdd19 "_law_mixed" = true) (kd19 : PySem.W.keepIn K (.ref fd19) = true) {fd20 : Addr} {ocd20 kVd20 dcd20 pmd20 cdd20 ctd20 : Value} {odd20 and20 : Option Addr} {sld20 : Array (Option Value)} (ad20 : PySem.W.nsIn K mainGlobals "_law_curve" = some (some (.ref fd20))) (ld20 : K.lookup fd20 = some ⟨ocd20, odd20, .func (PySem.W.fnOf "_law_curve" "_law_curve" (defArgs (top 32)) (defBody (top 32)) (defScope (top 32)) .none kVd20 dcd20 pmd20 and20 cdd20 ctd20), sld20⟩) (cd20 : PySem.W.codeIn K cdd20 "_law_curve" = true) (kd20 : PySem.W.keepIn K (.ref fd20) = true) {fd21 : Addr} {ocd21 kVd21 dcd21 pmd21 cdd21 ctd21 : Value} {odd21 and21 : Option Addr} {sld21 : Array (Option Value)} (ad21 : PySem.W.nsIn K mainGlobals "_law_divides" = some (some (.ref fd21))) (ld21 : K.lookup fd21 = some ⟨ocd21, odd21, .func (PySem.W.fnOf "_law_divides" "_law_divides" (defArgs (top 33)) (defBody (top 33)) (defScope (top 33)) .none kVd21 dcd21 pmd21 and21 cdd21 ctd21), sld21⟩) (cd21 : PySem.W.codeIn K cdd21 "_law_divides" = true) (kd21 : PySem.W.keepIn K (.ref fd21) = true) {fd22 : Addr} {ocd22 kVd22 dcd22 pmd22 cdd22 ctd22 : Value} {odd22 and22 : Option Addr} {sld22 : Array (Option Value)} (ad22 : PySem.W.nsIn K mainGlobals "_law_common_right" = some (some (.ref fd22))) (ld22 : K.lookup fd22 = some ⟨ocd22, odd22, .func (PySem.W.fnOf "_law_common_right" "_law_common_right" (defArgs (top 34)) (defBody (top 34)) (defScope (top 34)) .none kVd22 dcd22 pmd22 and22 cdd22 ctd22), sld22⟩) (cd22 : PySem.W.codeIn K cdd22 "_law_common_right" = true) (kd22 : PySem.W.keepIn K (.ref fd22) = true) {fd23 : Addr} {ocd23 kVd23 dcd23 pmd23 cdd23 ctd23 : Value} {odd23 and23 : Option Addr} {sld23 : Array (Option Value)} (ad23 : PySem.W.nsIn K mainGlobals "_law_plain_right" = some (some (.ref fd23))) (ld23 : K.lookup fd23 = some ⟨ocd23, odd23, .func (PySem.W.fnOf "_law_plain_right" "_law_plain_right" (defArgs (top 35)) (defBody (top 35)) (defScope (top 35)) .none kVd23 dcd23 pmd23 and23 cdd23 ctd23), sld23⟩) (cd23 : PySem.W.codeIn K cdd23 "_law_plain_right" = true) (kd23 : PySem.W.keepIn K (.ref fd23) = true) {fd24 : Addr} {ocd24 kVd24 dcd24 pmd24 cdd24 ctd24 : Value} {odd24 and24 : Option Addr} {sld24 : Array (Option Value)} (ad24 : PySem.W.nsIn K mainGlobals "_law_split_right" = some (some (.ref fd24))) (ld24 : K.lookup fd24 = some ⟨ocd24, odd24, .func (PySem.W.fnOf "_law_split_right" "_law_split_right" (defArgs (top 36)) (defBody (top 36)) (defScope (top 36)) .none kVd24 dcd24 pmd24 and24 cdd24 ctd24), sld24⟩) (cd24 : PySem.W.codeIn K cdd24 "_law_split_right" = true) (kd24 : PySem.W.keepIn K (.ref fd24) = true) {fd25 : Addr} {ocd25 kVd25 dcd25 pmd25 cdd25 ctd25 : Value} {odd25 and25 : Option Addr} {sld25 : Array (Option Value)} (ad25 : PySem.W.nsIn K mainGlobals "law" = some (some (.ref fd25))) (ld25 : K.lookup fd25 = some ⟨ocd25, odd25, .func (PySem.W.fnOf "law" "law" (defArgs (top 37)) (defBody (top 37)) (defScope (top 37)) .none kVd25 dcd25 pmd25 and25 cdd25 ctd25), sld25⟩) (cd25 : PySem.W.codeIn K cdd25 "law" = true) (kd25 : PySem.W.keepIn K (.ref fd25) = true) {C0 : Addr} {cl0 : ClassData} (n0 : PySem.W.nsIn K mainGlobals "BelowError" = some (some (.ref C0))) (t0 : CFt K C0 0 C0 cl0) {C1 : Addr} {cl1 : ClassData} (n1 : PySem.W.nsIn K mainGlobals "NoNumber" = some (some (.ref C1))) (t1 : CFt K C0 1 C1 cl1) {C2 : Addr} {cl2 : ClassData} (n2 : PySem.W.nsIn K mainGlobals "NoCurve" = some (some (.ref C2))) (t2 : CFt K C0 2 C2 cl2) {C3 : Addr} {cl3 : ClassData} (n3 : PySem.W.nsIn K mainGlobals "TooGreat" = some (some (.ref C3))) (t3 : CFt K C0 3 C3 cl3) (hn : PySem.W.specialIn K (.builtin "object.__class__") "__get__" = some (some (.builtin "getset_descriptor.__get__"))) (ht : PySem.W.takesIn K (.builtin "object.__class__") = some true) (nd : (([(0, C0), (1, C1), (2, C2), (3, C3)] : List (Nat × Addr)).map (·.2)).Nodup) (z0 : PySem.W.nsIn K mainGlobals "len" = some none) (z1 : PySem.W.nsIn K mainGlobals "abs" = some none) (z2 : PySem.W.nsIn K mainGlobals "int" = some none) (z3 : PySem.W.nsIn K mainGlobals "list" = some none) (z4 : PySem.W.nsIn K mainGlobals "tuple" = some none) (z5 : PySem.W.nsIn K mainGlobals "max" = some none) (z6 : PySem.W.nsIn K mainGlobals "min" = some none) (z7 : PySem.W.nsIn K mainGlobals "isinstance" = some none) (z8 : PySem.W.nsIn K mainGlobals "range" = some none) (z9 : PySem.W.nsIn K mainGlobals "reversed" = some none) (z10 : PySem.W.nsIn K mainGlobals "ValueError" = some none) (z11 : PySem.W.nsIn K mainGlobals "bool" = some none) (z12 : PySem.W.nsIn K mainGlobals "str" = some none) {vt0 : Tok} (v0 : PySem.W.nsIn K mainGlobals "MOST_NUMBERS" = some (some (.int (13) vt0))) {tp1 : Addr} {to1 : Obj} {ts1 : Array Value} {tn1 : Nat} (v1 : PySem.W.nsIn K mainGlobals "NOUGHT" = some (some (.ref tp1))) (w1 : K.lookup tp1 = some to1) (x1 : TupK to1 ts1 tn1 [V.int (0), V.int (1)]) {tp2 : Addr} {to2 : Obj} {ts2 : Array Value} {tn2 : Nat} (v2 : PySem.W.nsIn K mainGlobals "ONE" = some (some (.ref tp2))) (w2 : K.lookup tp2 = some to2) (x2 : TupK to2 ts2 tn2 [V.int (1), V.int (1)]) :
    ∃ (fd : FuncData) (CA : Nat → Option Addr), (∀ (s : Shared) (u : Value), BindsTo s fd ⟨[u], []⟩ [("_law_script", u)]) ∧ ∀ base : Heap, K.In base → base.Ns mainGlobals mg → base.NoSeer → FnOk PySem.Challenge.rw_neverbelow_k11_whole_parts_of_any_curves.prog w K mg base (L2.CX PySem.Challenge.rw_neverbelow_k11_whole_parts_of_any_curves.prog w) 60 fa fd ["_law_script"] (spF K CA (callF FT 20) 127 1) := by
  have e := hfa.symm.trans (PySem.W.mg_of X G ad25)
  cases e
  have D0 := df_mk X G dt_divisor_of ad0 ld0 cd0 kd0
  have D1 := df_mk X G dt_number ad1 ld1 cd1 kd1
  have D2 := df_mk X G dt_plus ad2 ld2 cd2 kd2
  have D3 := df_mk X G dt_times ad3 ld3 cd3 kd3
  have D4 := df_mk X G dt_over ad4 ld4 cd4 kd4
  have D5 := df_mk X G dt_without_noughts ad5 ld5 cd5 kd5
  have D6 := df_mk X G dt_curve_of ad6 ld6 cd6 kd6
  have D7 := df_mk X G dt_at_power ad7 ld7 cd7 kd7
  have D8 := df_mk X G dt_scaled ad8 ld8 cd8 kd8
  have D9 := df_mk X G dt_added ad9 ld9 cd9 kd9
  have D10 := df_mk X G dt_taken ad10 ld10 cd10 kd10
  have D11 := df_mk X G dt_product ad11 ld11 cd11 kd11
  have D12 := df_mk X G dt_multiplied ad12 ld12 cd12 kd12
  have D13 := df_mk X G dt_slope ad13 ld13 cd13 kd13
  have D14 := df_mk X G dt_divided ad14 ld14 cd14 kd14
  have D15 := df_mk X G dt_with_last_one ad15 ld15 cd15 kd15
  have D16 := df_mk X G dt_common ad16 ld16 cd16 kd16
  have D17 := df_mk X G dt_plain ad17 ld17 cd17 kd17
  have D18 := df_mk X G dt_split ad18 ld18 cd18 kd18
  have D19 := df_mk X G dt_law_mixed ad19 ld19 cd19 kd19
  have D20 := df_mk X G dt_law_curve ad20 ld20 cd20 kd20
  have D21 := df_mk X G dt_law_divides ad21 ld21 cd21 kd21
  have D22 := df_mk X G dt_law_common_right ad22 ld22 cd22 kd22
  have D23 := df_mk X G dt_law_plain_right ad23 ld23 cd23 kd23
  have D24 := df_mk X G dt_law_split_right ad24 ld24 cd24 kd24
  have D25 := df_mk X G dt_law ad25 ld25 cd25 kd25
  have D : Dfs TT FT K mg := dfs_of (al_cons ⟨_, _, _, _, _, _, D0, rfl⟩ (al_cons ⟨_, _, _, _, _, _, D1, rfl⟩ (al_cons ⟨_, _, _, _, _, _, D2, rfl⟩ (al_cons ⟨_, _, _, _, _, _, D3, rfl⟩ (al_cons ⟨_, _, _, _, _, _, D4, rfl⟩ (al_cons ⟨_, _, _, _, _, _, D5, rfl⟩ (al_cons ⟨_, _, _, _, _, _, D6, rfl⟩ (al_cons ⟨_, _, _, _, _, _, D7, rfl⟩ (al_cons ⟨_, _, _, _, _, _, D8, rfl⟩ (al_cons ⟨_, _, _, _, _, _, D9, rfl⟩ (al_cons ⟨_, _, _, _, _, _, D10, rfl⟩ (al_cons ⟨_, _, _, _, _, _, D11, rfl⟩ (al_cons ⟨_, _, _, _, _, _, D12, rfl⟩ (al_cons ⟨_, _, _, _, _, _, D13, rfl⟩ (al_cons ⟨_, _, _, _, _, _, D14, rfl⟩ (al_cons ⟨_, _, _, _, _, _, D15, rfl⟩ (al_cons ⟨_, _, _, _, _, _, D16, rfl⟩ (al_cons ⟨_, _, _, _, _, _, D17, rfl⟩ (al_cons ⟨_, _, _, _, _, _, D18, rfl⟩ (al_cons ⟨_, _, _, _, _, _, D19, rfl⟩ (al_cons ⟨_, _, _, _, _, _, D20, rfl⟩ (al_cons ⟨_, _, _, _, _, _, D21, rfl⟩ (al_cons ⟨_, _, _, _, _, _, D22, rfl⟩ (al_cons ⟨_, _, _, _, _, _, D23, rfl⟩ (al_cons ⟨_, _, _, _, _, _, D24, rfl⟩ (al_cons ⟨_, _, _, _, _, _, D25, rfl⟩ al_nil))))))))))))))))))))))))))
  have cf : CFs K (caOf [(0, C0), (1, C1), (2, C2), (3, C3)]) := cfs_of (C0 := C0) rfl nd (al_cons (t0.cf hn ht) (al_cons (t1.cf hn ht) (al_cons (t2.cf hn ht) (al_cons (t3.cf hn ht) al_nil))))
  have cls := lk_cls (mg := mg) (l := [(0, C0), (1, C1), (2, C2), (3, C3)]) (xs := TT.cls) (al_cons ⟨C0, rfl, PySem.W.mg_of X G n0⟩ (al_cons ⟨C1, rfl, PySem.W.mg_of X G n1⟩ (al_cons ⟨C2, rfl, PySem.W.mg_of X G n2⟩ (al_cons ⟨C3, rfl, PySem.W.mg_of X G n3⟩ al_nil))))
  have csts : ∀ e ∈ TT.csts, ∃ u y, mg e.1 = some u ∧ RelV y u ∧ ∀ H P, RV K (caOf [(0, C0), (1, C1), (2, C2), (3, C3)]) H P e.2 y := (al_cons ⟨_, .int (13), PySem.W.mg_of X G v0, ⟨_, rfl⟩, fun _ _ => .int _⟩ (al_cons ⟨_, .ref tp1, PySem.W.mg_of X G v1, rfl, fun _ _ => .tup (x1.sq w1) (.cons (.int _) (.cons (.int _) .nil))⟩ (al_cons ⟨_, .ref tp2, PySem.W.mg_of X G v2, rfl, fun _ _ => .tup (x2.sq w2) (.cons (.int _) (.cons (.int _) .nil))⟩ al_nil)))
  have blt : ∀ x ∈ bltNames, mg x = none := (al_cons (PySem.W.mg_none_of X G z0) (al_cons (PySem.W.mg_none_of X G z1) (al_cons (PySem.W.mg_none_of X G z2) (al_cons (PySem.W.mg_none_of X G z3) (al_cons (PySem.W.mg_none_of X G z4) (al_cons (PySem.W.mg_none_of X G z5) (al_cons (PySem.W.mg_none_of X G z6) (al_cons (PySem.W.mg_none_of X G z7) (al_cons (PySem.W.mg_none_of X G z8) (al_cons (PySem.W.mg_none_of X G z9) (al_cons (PySem.W.mg_none_of X G z10) (al_cons (PySem.W.mg_none_of X G z11) (al_cons (PySem.W.mg_none_of X G z12) al_nil)))))))))))))
  exact ⟨_, _, fun s v => .of_eq rfl, fun base _ _ hS => fn_ok D ⟨hS, rfl, cf, fun x v e => lk_all csts x v e, cls, blt⟩ 20 127 "law" _ _ _ _ _ _ D25⟩
end G.K11
open PySem PySem.W PyProof.Rows
set_option maxRecDepth 100000 in
set_option maxHeartbeats 0 in
theorem PySem.Challenge.cw_neverbelow_k11_whole_parts_of_any_curves_holds : PySem.Challenge.rw_neverbelow_k11_whole_parts_of_any_curves.Holds := by
  w_on; o_law; k_head; (case hw => w_witness2)
  k_fill
  refine G.walkL (l := PySem.Challenge.rw_neverbelow_k11_whole_parts_of_any_curves) (n := 63) (k := 60) (x := "_law_script") rfl (by decide) rfl ⟨rfl, by decide, by decide⟩ ?Q G.K11.plain (fun w h Y => PySem.W.kIn_of Y) ?F
  case F =>
    intro w mg fa h KX GG hmg
    refine' G.K11.all_mk KX GG hmg ?ad0 ?ld0 ?cd0 ?kd0 ?ad1 ?ld1 ?cd1 ?kd1 ?ad2 ?ld2 ?cd2 ?kd2 ?ad3 ?ld3 ?cd3 ?kd3 ?ad4 ?ld4 ?cd4 ?kd4 ?ad5 ?ld5 ?cd5 ?kd5 ?ad6 ?ld6 ?cd6 ?kd6 ?ad7 ?ld7 ?cd7 ?kd7 ?ad8 ?ld8 ?cd8 ?kd8 ?ad9 ?ld9 ?cd9 ?kd9 ?ad10 ?ld10 ?cd10 ?kd10 ?ad11 ?ld11 ?cd11 ?kd11 ?ad12 ?ld12 ?cd12 ?kd12 ?ad13 ?ld13 ?cd13 ?kd13 ?ad14 ?ld14 ?cd14 ?kd14 ?ad15 ?ld15 ?cd15 ?kd15 ?ad16 ?ld16 ?cd16 ?kd16 ?ad17 ?ld17 ?cd17 ?kd17 ?ad18 ?ld18 ?cd18 ?kd18 ?ad19 ?ld19 ?cd19 ?kd19 ?ad20 ?ld20 ?cd20 ?kd20 ?ad21 ?ld21 ?cd21 ?kd21 ?ad22 ?ld22 ?cd22 ?kd22 ?ad23 ?ld23 ?cd23 ?kd23 ?ad24 ?ld24 ?cd24 ?kd24 ?ad25 ?ld25 ?cd25 ?kd25 ?n0 ?t0 ?n1 ?t1 ?n2 ?t2 ?n3 ?t3 ?hn ?ht ?nd ?z0 ?z1 ?z2 ?z3 ?z4 ?z5 ?z6 ?z7 ?z8 ?z9 ?z10 ?z11 ?z12 ?v0 ?v1 ?w1 ?x1 ?v2 ?w2 ?x2
    (case ad0 => k_is)
    (case ld0 => k_is)
    (case cd0 => k_is)
    (case kd0 => k_is)
    (case ad1 => k_is)
    (case ld1 => k_is)
    (case cd1 => k_is)
    (case kd1 => k_is)
    (case ad2 => k_is)
    (case ld2 => k_is)
    (case cd2 => k_is)
    (case kd2 => k_is)
    (case ad3 => k_is)
    (case ld3 => k_is)
    (case cd3 => k_is)
    (case kd3 => k_is)
    (case ad4 => k_is)
    (case ld4 => k_is)
    (case cd4 => k_is)
    (case kd4 => k_is)
    (case ad5 => k_is)
    (case ld5 => k_is)
    (case cd5 => k_is)
    (case kd5 => k_is)
    (case ad6 => k_is)
    (case ld6 => k_is)
    (case cd6 => k_is)
    (case kd6 => k_is)
    (case ad7 => k_is)
    (case ld7 => k_is)
    (case cd7 => k_is)
    (case kd7 => k_is)
    (case ad8 => k_is)
    (case ld8 => k_is)
    (case cd8 => k_is)
    (case kd8 => k_is)
    (case ad9 => k_is)
    (case ld9 => k_is)
    (case cd9 => k_is)
    (case kd9 => k_is)
    (case ad10 => k_is)
    (case ld10 => k_is)
    (case cd10 => k_is)
    (case kd10 => k_is)
    (case ad11 => k_is)
    (case ld11 => k_is)
    (case cd11 => k_is)
    (case kd11 => k_is)
    (case ad12 => k_is)
    (case ld12 => k_is)
    (case cd12 => k_is)
    (case kd12 => k_is)
    (case ad13 => k_is)
    (case ld13 => k_is)
    (case cd13 => k_is)
    (case kd13 => k_is)
    (case ad14 => k_is)
    (case ld14 => k_is)
    (case cd14 => k_is)
    (case kd14 => k_is)
    (case ad15 => k_is)
    (case ld15 => k_is)
    (case cd15 => k_is)
    (case kd15 => k_is)
    (case ad16 => k_is)
    (case ld16 => k_is)
    (case cd16 => k_is)
    (case kd16 => k_is)
    (case ad17 => k_is)
    (case ld17 => k_is)
    (case cd17 => k_is)
    (case kd17 => k_is)
    (case ad18 => k_is)
    (case ld18 => k_is)
    (case cd18 => k_is)
    (case kd18 => k_is)
    (case ad19 => k_is)
    (case ld19 => k_is)
    (case cd19 => k_is)
    (case kd19 => k_is)
    (case ad20 => k_is)
    (case ld20 => k_is)
    (case cd20 => k_is)
    (case kd20 => k_is)
    (case ad21 => k_is)
    (case ld21 => k_is)
    (case cd21 => k_is)
    (case kd21 => k_is)
    (case ad22 => k_is)
    (case ld22 => k_is)
    (case cd22 => k_is)
    (case kd22 => k_is)
    (case ad23 => k_is)
    (case ld23 => k_is)
    (case cd23 => k_is)
    (case kd23 => k_is)
    (case ad24 => k_is)
    (case ld24 => k_is)
    (case cd24 => k_is)
    (case kd24 => k_is)
    (case ad25 => k_is)
    (case ld25 => k_is)
    (case cd25 => k_is)
    (case kd25 => k_is)
    (case n0 => k_is)
    (case t0 => refine' ⟨?a1, ?a2, ?a3, ?a4, ?a5, ?a6, ?a7, ?a8, ?a9, ?a10, ?a11⟩; (case a1 => k_is); (case a2 => rfl); (case a3 => k_is); (case a4 => k_is); (case a5 => k_is); (case a6 => k_is); (case a7 => k_is); (case a8 => k_is); (case a9 => k_is); (case a10 => k_exc); (case a11 => k_is))
    (case n1 => k_is)
    (case t1 => refine' ⟨?a1, ?a2, ?a3, ?a4, ?a5, ?a6, ?a7, ?a8, ?a9, ?a10, ?a11⟩; (case a1 => k_is); (case a2 => rfl); (case a3 => k_is); (case a4 => k_is); (case a5 => k_is); (case a6 => k_is); (case a7 => k_is); (case a8 => k_is); (case a9 => k_is); (case a10 => k_exc); (case a11 => k_is))
    (case n2 => k_is)
    (case t2 => refine' ⟨?a1, ?a2, ?a3, ?a4, ?a5, ?a6, ?a7, ?a8, ?a9, ?a10, ?a11⟩; (case a1 => k_is); (case a2 => rfl); (case a3 => k_is); (case a4 => k_is); (case a5 => k_is); (case a6 => k_is); (case a7 => k_is); (case a8 => k_is); (case a9 => k_is); (case a10 => k_exc); (case a11 => k_is))
    (case n3 => k_is)
    (case t3 => refine' ⟨?a1, ?a2, ?a3, ?a4, ?a5, ?a6, ?a7, ?a8, ?a9, ?a10, ?a11⟩; (case a1 => k_is); (case a2 => rfl); (case a3 => k_is); (case a4 => k_is); (case a5 => k_is); (case a6 => k_is); (case a7 => k_is); (case a8 => k_is); (case a9 => k_is); (case a10 => k_exc); (case a11 => k_is))
    (case hn => k_is)
    (case ht => k_is)
    (case z0 => k_is)
    (case z1 => k_is)
    (case z2 => k_is)
    (case z3 => k_is)
    (case z4 => k_is)
    (case z5 => k_is)
    (case z6 => k_is)
    (case z7 => k_is)
    (case z8 => k_is)
    (case z9 => k_is)
    (case z10 => k_is)
    (case z11 => k_is)
    (case z12 => k_is)
    (case v0 => k_is)
    (case v1 => k_is)
    (case w1 => k_is)
    (case x1 => exact ⟨rfl, rfl, by decide, .cons ⟨_, rfl⟩ (.cons ⟨_, rfl⟩ .nil)⟩)
    (case v2 => k_is)
    (case w2 => k_is)
    (case x2 => exact ⟨rfl, rfl, by decide, .cons ⟨_, rfl⟩ (.cons ⟨_, rfl⟩ .nil)⟩)
    (case nd => decide +kernel)
  case Q => kernel_rfl

