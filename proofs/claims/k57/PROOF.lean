import PyProof.Rows.All
import Wide.All
import OpenK.AllK
import Wide.FinOn
import HandS.ForExc
import HandS.Comp
import HandS.Text
import HandS.ExcCtx
import HandS.Hot
import HandS.Dict
import HandS.TupLe
import HandS.TupAny
import HandS.Rev
import HandS.Style
import HandS.IsInst
import HandS.ExcIs
import HandS.Deep
import HandS.Conv
import HandS.Zip
import HandS.TupSets
import HandS.More
import HandS.ExcValue
import HandS.EndBits
import PySem.Challenge.RW_neverbelow_k57_curves_read
set_option Elab.async false
set_option linter.all false
set_option maxRecDepth 100000
set_option linter.all false
namespace G
open PySem
inductive FV where
  | non | bl (b : Bool) | int (i : Int)
  deriving Inhabited, Repr, DecidableEq
inductive Val where
  | non | bl (b : Bool) | int (i : Int) | str (s : Str) | tup (xs : List Val) | lst (xs : List Val) | exc (c : Nat) | scr (ns : List Int) | hid | fn (k : Nat) | dct (kvs : List (List Int × FV)) | dk (ks vs : List Val)
  deriving Inhabited, Repr
def FV.val : FV → Val
  | .non => .non
  | .bl b => .bl b
  | .int i => .int i
def FV.v : FV → L2.V
  | .non => .non
  | .bl b => .bl b
  | .int i => .int i
def FV.of : Val → Option FV
  | .non => some .non
  | .bl b => some (.bl b)
  | .int i => some (.int i)
  | _ => none
def intsL : List Val → Option (List Int)
  | [] => some []
  | .int i :: vs => (intsL vs).map (i :: ·)
  | _ :: _ => none
def keyOf : Val → Option (List Int)
  | .tup vs => intsL vs
  | _ => none
def dfind (kvs : List (List Int × FV)) (k : List Int) : Option FV := (kvs.find? fun kv => decide (kv.1 = k)).map (·.2)
def dhas (kvs : List (List Int × FV)) (k : List Int) : Bool := kvs.any fun kv => decide (kv.1 = k)
def dput (kvs : List (List Int × FV)) (k : List Int) (v : FV) : List (List Int × FV) :=
  if dhas kvs k = true then kvs.map (fun kv => if kv.1 = k then (kv.1, v) else kv) else kvs ++ [(k, v)]
inductive R (α : Type) where
  | ok (a : α) | exc (c : Nat) | bad
  deriving Repr
namespace R
def bind {α β : Type} : R α → (α → R β) → R β
  | ok a, f => f a
  | exc c, _ => exc c
  | bad, _ => bad
def map {α β : Type} (f : α → β) : R α → R β
  | ok a => ok (f a)
  | exc c => exc c
  | bad => bad
def noexc {α : Type} : R α → R α
  | ok a => ok a
  | _ => bad
def guard (b : Bool) : R Unit := if b then ok () else bad
@[simp] theorem bind_ok {α β : Type} (a : α) (f : α → R β) : (R.ok a).bind f = f a := rfl
@[simp] theorem bind_exc {α β : Type} (c : Nat) (f : α → R β) : (R.exc c : R α).bind f = .exc c := rfl
@[simp] theorem bind_bad {α β : Type} (f : α → R β) : (R.bad : R α).bind f = .bad := rfl
@[simp] theorem map_ok {α β : Type} (a : α) (f : α → β) : R.map f (R.ok a) = .ok (f a) := rfl
@[simp] theorem map_exc {α β : Type} (c : Nat) (f : α → β) : R.map f (R.exc c : R α) = .exc c := rfl
@[simp] theorem map_bad {α β : Type} (f : α → β) : R.map f (R.bad : R α) = .bad := rfl
@[simp] theorem noexc_ok {α : Type} (a : α) : (R.ok a).noexc = .ok a := rfl
@[simp] theorem guard_true : R.guard true = .ok () := rfl
theorem map_bind {α β γ : Type} (r : R α) (f : α → R β) (g : β → γ) : (r.bind f).map g = r.bind fun a => (f a).map g := by cases r <;> rfl
theorem bind_assoc {α β γ : Type} (r : R α) (f : α → R β) (g : β → R γ) : (r.bind f).bind g = r.bind fun a => (f a).bind g := by cases r <;> rfl
theorem map_map {α β γ : Type} (r : R α) (f : α → β) (g : β → γ) : (r.map f).map g = r.map fun a => g (f a) := by cases r <;> rfl
theorem bind_map {α β γ : Type} (r : R α) (f : α → β) (g : β → R γ) : (r.map f).bind g = r.bind fun a => g (f a) := by cases r <;> rfl
theorem bind_eq_ok {α β : Type} {r : R α} {f : α → R β} {b : β} (h : r.bind f = .ok b) : ∃ a, r = .ok a ∧ f a = .ok b := by
  cases r with
  | ok a => exact ⟨a, rfl, h⟩
  | exc c => cases h
  | bad => cases h
end R
mutual
def dat : Val → PyData
  | .non => .none
  | .bl b => .bool b
  | .int i => .int i
  | .str s => .str s
  | .tup xs => .tuple (dats xs)
  | .lst xs => .list (dats xs)
  | .exc _ => .none
  | .scr _ => .none
  | .hid => .none
  | .fn _ => .none
  | .dct _ => .none
  | .dk _ _ => .none
def dats : List Val → List PyData
  | [] => []
  | x :: xs => dat x :: dats xs
end
mutual
/-- no caught error within -/
def isD : Val → Bool
  | .tup xs => isDs xs
  | .lst xs => isDs xs
  | .exc _ => false
  | .scr _ => false
  | .hid => false
  | .fn _ => false
  | .dct _ => false
  | .dk _ _ => false
  | _ => true
def isDs : List Val → Bool
  | [] => true
  | x :: xs => isD x && isDs xs
end
mutual
/-- no list within -/
def noL : Val → Bool
  | .tup xs => noLs xs
  | .lst _ => false
  | .hid => false
  | .dct _ => false
  | .dk _ _ => false
  | _ => true
def noLs : List Val → Bool
  | [] => true
  | x :: xs => noL x && noLs xs
end
def okD (v : Val) : Bool := isD v && SeqAt.shaped (dat v)
def isLst : Val → Bool
  | .lst _ => true
  | _ => false
inductive BOp where
  | add | sub | mul | fdiv | mod | pow | band | shr
  deriving DecidableEq, Repr
inductive COp where
  | lt | le | gt | ge | eq | ne | is | isnt
  deriving DecidableEq, Repr
inductive Bf where
  | len | abs | max2 | min2 | int | list | tuple | maxL | minL | cnt | idx | str | all | srt
  deriving DecidableEq, Repr
inductive Cl where
  | ty (n : String) | own (c : Nat)
  deriving DecidableEq, Repr
inductive Tg where
  | one (i : Nat) | tup (is : List Nat)
  deriving DecidableEq, Repr
mutual
inductive E where
  | nm (i : Nat) | bor (i : Nat) | cst (v : Val)
  | bin (o : BOp) (a b : E) | neg (a : E)
  | cmp (o : COp) (a b : E) | isn (n : Bool) (a : E) | chn (o o' : COp) (a b c : E)
  | inn (n : Bool) (a b : E)
  | and (a b : E) | or (a b : E) | not (a : E) | ifx (c a b : E)
  | ix (a b : E) | slc (a : E) (lo hi : Option E) | rev (a : E)
  | tup (as : List E) | lst (as : List E)
  | call (f : Nat) (as : List E) | blt (f : Bf) (as : List E) | isi (a : E) (cs : List Cl)
  | lc (tg : Tg) (it : It) (cond : Option E) (el : E)
  | ls (a : E)
  | sm (a : E)
  | jn (s : Str) (a : E) | pt (a : E) (s : Str) | sp (a : E) (s : Str)
  | fnv (k : Nat) | cal (i : Nat) (ks : List Nat) (as : List E)
  | dl (ks vs : List Val) | get (a b : E) | cax (e : E) (ks : List Nat) (as : List E)
  deriving Repr
inductive It where
  | val (e : E) | rng1 (a : E) | rng2 (a b : E) | rvd (e : E) | zip (a b : E)
  deriving Repr
end
inductive MW where
  | app (e : E) | clr | rev | pop | revp
  deriving Repr
inductive S where
  | set (i : Nat) (e : E)
  | par (i j : Nat) (a b : E)
  | par3 (i j k : Nat) (a b c : E)
  | unp (is : List Nat) (e : E)
  | six (i : Nat) (k e : E)
  | app (i : Nat) (e : E)
  | pop (i : Nat)
  | popu (is : List Nat) (i : Nat)
  | popi (j i : Nat) (k : Int)
  | rev (i : Nat)
  | ins (i : Nat) (k e : E)
  | clr (i : Nat)
  | ret (e : E) | retn
  | ifs (c : E) (a b : List S)
  | whl (c : E) (b : List S)
  | for (tg : Tg) (it : It) (b : List S)
  | exp (e : E)
  | rse (c : Nat)
  | trya (b : List S) (c : Nat) (n : Nat) (h : List S)
  | pass
  | mut (e : E) (w : MW)
  | dnew (i : Nat)
  | dput (i : Nat) (k e : E)
  | kput (i : Nat) (k e : E)
  | rett (e : E)
  | trm (i w : Nat) (el ec e2 ei : E)
  deriving Repr
abbrev Env := List (Option (Val × Bool))
def LIM : Nat := 16000000
def mulOk (i j : Int) : Bool := decide (i.natAbs.log2 + j.natAbs.log2 < 134000000)
def powOk (i j : Int) : Bool := decide (0 ≤ j ∧ j ≤ 1000000 ∧ i.natAbs < 2 ^ 64)
def lenOk (n : Nat) : Bool := decide (n ≤ LIM)
def evBin : BOp → Val → Val → R Val
  | .add, .int i, .int j => .ok (.int (i + j))
  | .add, .lst xs, .lst ys => if lenOk (xs.length + ys.length) then .ok (.lst (xs ++ ys)) else .bad
  | .add, .tup xs, .tup ys => if lenOk (xs.length + ys.length) then .ok (.tup (xs ++ ys)) else .bad
  | .add, .str a, .str b => if lenOk (a.length + b.length) then .ok (.str (a ++ b)) else .bad
  | .mul, .str s, .int k => if k = 0 then .ok (.str Str.empty) else if k = 1 then .ok (.str s) else .bad
  | .sub, .int i, .int j => .ok (.int (i - j))
  | .mul, .int i, .int j => if mulOk i j then .ok (.int (i * j)) else .bad
  | .mul, .lst xs, .int k => if lenOk (xs.length * k.toNat) && decide (-1000000 ≤ k ∧ k ≤ 1000000) then .ok (.lst (List.replicate k.toNat xs).flatten) else .bad
  | .fdiv, .int i, .int j => if j = 0 then .bad else .ok (.int (i.fdiv j))
  | .mod, .int i, .int j => if j = 0 then .bad else .ok (.int (i.fmod j))
  | .pow, .int i, .int j => if powOk i j then .ok (.int (i ^ j.toNat)) else .bad
  | .band, .int i, .int j => .ok (.int (Builtin.bitAnd i j))
  | .shr, .int i, .int j => if 0 ≤ j then .ok (.int (i / 2 ^ j.toNat)) else .bad
  | _, _, _ => .bad
def evCmp : COp → Val → Val → R Val
  | .lt, .int i, .int j => .ok (.bl (decide (i < j)))
  | .le, .int i, .int j => .ok (.bl (decide (i ≤ j)))
  | .gt, .int i, .int j => .ok (.bl (decide (j < i)))
  | .ge, .int i, .int j => .ok (.bl (decide (j ≤ i)))
  | .eq, a, b => if okD a && okD b then .ok (.bl (PyData.eqv (dat a) (dat b))) else .bad
  | .ne, a, b => if okD a && okD b then .ok (.bl (!PyData.eqv (dat a) (dat b))) else .bad
  | .is, .bl a, .bl b => .ok (.bl (decide (a = b)))
  | .isnt, .bl a, .bl b => .ok (.bl (!decide (a = b)))
  | _, _, _ => .bad
def isNon : Val → Bool
  | .non => true
  | _ => false
def flat : Val → Bool
  | .non => true
  | .bl _ => true
  | .int _ => true
  | .str _ => true
  | _ => false
def toV : Val → L2.V
  | .non => .non
  | .bl b => .bl b
  | .int i => .int i
  | .str s => .str s
  | _ => .non
def isK : Val → Bool
  | .int _ => true
  | .str _ => true
  | _ => false
def keqV : Val → Val → Bool
  | .int i, .int j => decide (i = j)
  | .str s, .str t => decide (s = t)
  | _, _ => false
def dkF : List Val → List Val → Val → Option Val
  | k' :: ks, v :: vs, k => if keqV k' k then some v else dkF ks vs k
  | _, _, _ => none
def dkR : List Val → List Val → Val → Val → List Val
  | k' :: ks, v' :: vs, k, v => (if keqV k' k then v else v') :: dkR ks vs k v
  | _, _, _, _ => []
def dkP (ks vs : List Val) (k v : Val) : List Val × List Val := if (dkF ks vs k).isSome then (ks, dkR ks vs k v) else (ks ++ [k], vs ++ [v])
def kND : List Val → Bool
  | [] => true
  | k :: ks => ks.all (fun j => !keqV k j) && kND ks
def okDl (ks vs : List Val) : Bool := decide (ks.length = vs.length) && decide (ks.length ≤ 15) && ks.all isK && vs.all flat && kND ks
def evIn (n : Bool) (x : Val) : Val → R Val
  | .lst xs => if flat x && xs.all flat then .ok (.bl (if n then !L2.inV (toV x) (xs.map toV) else L2.inV (toV x) (xs.map toV)))
    else if okD x && okD (.lst xs) && Nat.ble (dat x).depth 32 then .ok (.bl (if n then !((dats xs).any fun z => PyData.eqv z (dat x)) else (dats xs).any fun z => PyData.eqv z (dat x))) else .bad
  | .tup xs => if flat x && xs.all flat then .ok (.bl (if n then !L2.inV (toV x) (xs.map toV) else L2.inV (toV x) (xs.map toV))) else .bad
  | .str z => (match x with
    | .str w => (match w.cps.toList with
      | [c] => .ok (.bl (if n then !decide (c ∈ z.cps.toList) else decide (c ∈ z.cps.toList)))
      | _ => .bad)
    | _ => .bad)
  | .dct kvs => (match keyOf x with
    | some k => .ok (.bl (if n then !dhas kvs k else dhas kvs k))
    | none => .bad)
  | .dk ks vs => if isK x then .ok (.bl (if n then !(dkF ks vs x).isSome else (dkF ks vs x).isSome)) else .bad
  | _ => .bad
def truth : Val → R Bool
  | .non => .ok false
  | .bl b => .ok b
  | .int i => .ok (i != 0)
  | .tup xs => .ok (!xs.isEmpty)
  | .lst xs => .ok (!xs.isEmpty)
  | .scr xs => .ok (!xs.isEmpty)
  | _ => .bad
def toB : Val → R Bool
  | .bl b => .ok b
  | _ => .bad
def ofO {α : Type} : Option α → R α
  | some a => .ok a
  | none => .bad
def evIx : Val → Val → R Val
  | .lst xs, .int i => ofO (L2.atI xs i)
  | .tup xs, .int i => ofO (L2.atI xs i)
  | .scr ns, .int i => ofO ((L2.atI ns i).map .int)
  | .str z, .int i => if lenOk z.length then ofO ((L2.atI z.cps.toList i).map fun c => .str ⟨#[c]⟩) else .bad
  | .dct kvs, .tup vs => ofO ((intsL vs).bind fun k => (dfind kvs k).map FV.val)
  | .dk ks vs, .int i => ofO (dkF ks vs (.int i))
  | .dk ks vs, .str z => ofO (dkF ks vs (.str z))
  | _, _ => .bad
def evGet : Val → Val → R Val
  | .dct kvs, .tup vs => (match intsL vs with
    | some k => .ok (((dfind kvs k).map FV.val).getD .non)
    | none => .bad)
  | _, _ => .bad
def isDct : Val → Bool
  | .dct _ => true
  | _ => false
def cut {α : Type} (xs : List α) (lo hi : Option Int) : List α := (xs.drop (HT.sIx xs.length 0 lo)).take (HT.sIx xs.length xs.length hi - HT.sIx xs.length 0 lo)
def evSlc (lo hi : Option Int) : Val → R Val
  | .lst xs => .ok (.lst (cut xs lo hi))
  | .tup xs => .ok (.tup (cut xs lo hi))
  | .scr ns => .ok (.lst (cut (ns.map .int) lo hi))
  | .str z => if lenOk z.length then .ok (.str (L2.cutS z lo hi)) else .bad
  | _ => .bad
def evRev : Val → R Val
  | .lst xs => .ok (.lst xs.reverse)
  | .tup xs => .ok (.tup xs.reverse)
  | _ => .bad
def toI : Val → R Int
  | .int i => .ok i
  | _ => .bad
def intsOf : List Val → Option (List Int)
  | [] => some []
  | .int i :: r => (intsOf r).map (i :: ·)
  | _ :: _ => none
def maxI : List Int → Int
  | [] => 0
  | [a] => a
  | a :: b :: r => if maxI (b :: r) > a then maxI (b :: r) else a
def minI : List Int → Int
  | [] => 0
  | [a] => a
  | a :: b :: r => if minI (b :: r) < a then minI (b :: r) else a
def tupsOf : List Val → Option (List (List Int))
  | [] => some []
  | .tup vs :: r => (intsOf vs).bind fun k => (tupsOf r).map (k :: ·)
  | _ :: _ => none
def boolsOf : List Val → Option (List Bool)
  | [] => some []
  | .bl b :: r => (boolsOf r).map (b :: ·)
  | _ :: _ => none
def srtI (ns : List Int) : List Int := ns.mergeSort fun a b => decide (a ≤ b)
def evB1 : Bf → Val → R Val
  | .len, .lst xs => .ok (.int xs.length)
  | .len, .tup xs => .ok (.int xs.length)
  | .len, .scr xs => .ok (.int xs.length)
  | .len, .str z => if lenOk z.length then .ok (.int z.length) else .bad
  | .int, .str z => (match PySem.intText? z with
    | some n => if decide (z.length ≤ 640) then .ok (.int n) else .bad
    | none => .bad)
  | .str, .int i => if decide (i.natAbs.log2 < 1920) then .ok (.str (Str.ofString (toString i))) else .bad
  | .abs, .int i => .ok (.int (if i < 0 then -i else i))
  | .int, .int i => .ok (.int i)
  | .int, .bl k => .ok (.int (if k then 1 else 0))
  | .list, .lst xs => .ok (.lst xs)
  | .list, .tup xs => .ok (.lst xs)
  | .list, .scr ns => .ok (.lst (ns.map .int))
  | .list, .dk ks _ => .ok (.lst ks)
  | .tuple, .lst xs => .ok (.tup xs)
  | .tuple, .tup xs => .ok (.tup xs)
  | .maxL, .lst xs => (match intsOf xs with
    | some (a :: r) => .ok (.int (maxI (a :: r)))
    | _ => .bad)
  | .minL, .lst xs => (match intsOf xs with
    | some (a :: r) => .ok (.int (minI (a :: r)))
    | _ => .bad)
  | .all, .lst xs => (match boolsOf xs with
    | some bs => .ok (.bl (bs.all id))
    | none => .bad)
  | .srt, .lst xs => (match intsOf xs with
    | some ns => if decide (ns.length < 64) then .ok (.lst ((srtI ns).map .int)) else .bad
    | none => .bad)
  | _, _ => .bad
def evLs : Val → R Val
  | .lst xs => (match tupsOf xs with
    | some ks => if decide (ks.Nodup) && decide (ks.length < 64) then .ok (.int ks.length) else .bad
    | none => .bad)
  | _ => .bad
def strsOf : List Val → Option (List Str)
  | [] => some []
  | .str i :: r => (strsOf r).map (i :: ·)
  | _ :: _ => none
def boolSum : List Bool → Int
  | [] => 0
  | b :: r => (if b then 1 else 0) + boolSum r
def evSm : Val → R Val
  | .lst xs => (match boolsOf xs with
    | some bs => .ok (.int (boolSum bs))
    | none => .bad)
  | _ => .bad
def evJn (s : Str) : Val → R Val
  | .lst xs => (match strsOf xs with
    | some ys => if decide ((ys.map (·.length)).sum + ys.length * s.length ≤ 16777216) then .ok (.str (Txt.join s ys)) else .bad
    | none => .bad)
  | _ => .bad
def evPt (s : Str) : Val → R Val
  | .str a => if !(s.length == 0) && lenOk a.length then .ok (.tup [.str (Txt.partition a s).1, .str (Txt.partition a s).2.1, .str (Txt.partition a s).2.2]) else .bad
  | _ => .bad
def evSp (s : Str) : Val → R Val
  | .str a => if !(s.length == 0) && lenOk (a.length + 2) then .ok (.lst ((Txt.split a s).map .str)) else .bad
  | _ => .bad
def evB2 : Bf → Val → Val → R Val
  | .max2, .int i, .int j => .ok (.int (if j > i then j else i))
  | .min2, .int i, .int j => .ok (.int (if j < i then j else i))
  | .cnt, .lst xs, .bl b => if okD (.lst xs) then .ok (.int ((dats xs).countP fun z => PyData.eqv z (.bool b) : Nat)) else .bad
  | .idx, .lst xs, .bl b => if okD (.lst xs) then (match (dats xs).findIdx? fun z => PyData.eqv z (.bool b) with
    | some j => .ok (.int (j : Nat))
    | none => .bad) else .bad
  | _, _, _ => .bad
def evBf (f : Bf) : List Val → R Val
  | [x] => evB1 f x
  | [x, y] => evB2 f x y
  | _ => .bad
def tyOf : Val → Option String
  | .non => some "NoneType"
  | .bl _ => some "bool"
  | .int _ => some "int"
  | .str _ => some "str"
  | .tup _ => some "tuple"
  | .lst _ => some "list"
  | .exc _ => none
  | .scr _ => some "list"
  | .hid => some "list"
  | .fn _ => none
  | .dct _ => none
  | .dk _ _ => none
def tySub (t T : String) : Option Bool :=
  if T = "int" then some (t == "int" || t == "bool")
  else if T = "bool" then some (t == "bool")
  else if T = "tuple" then some (t == "tuple")
  else if T = "list" then some (t == "list")
  else if T = "str" then some (t == "str")
  else if T = "ValueError" then some false
  else none
def excSub (c d : Nat) : Bool := decide (d = 0 ∨ c = d)
def isi1 (v : Val) : Cl → R Bool
  | .ty T => match v with
    | .exc _ => if T = "ValueError" then .ok true else if T = "tuple" ∨ T = "list" ∨ T = "int" ∨ T = "bool" ∨ T = "str" then .ok false else .bad
    | _ => match tyOf v with
      | some t => ofO (tySub t T)
      | none => .bad
  | .own d => match v with
    | .exc c => .ok (excSub c d)
    | .fn _ => .bad
    | .dct _ => .bad
    | .dk _ _ => .bad
    | _ => .ok false
def isiA (v : Val) : List Cl → R Bool
  | [] => match v with | .fn _ => .bad | .dct _ => .bad | .dk _ _ => .bad | _ => .ok false
  | c :: cs => (isi1 v c).bind fun b => if b then .ok true else isiA v cs
def look (env : Env) (i : Nat) : R Val := match env[i]? with
  | some (some (v, _)) => .ok v
  | _ => .bad
def fnAt (env : Env) (i : Nat) (ks : List Nat) : R Nat := match look env i with
  | .ok (.fn k) => if k ∈ ks then .ok k else .bad
  | _ => .bad
def fnOf (ks : List Nat) : Val → R Nat
  | .fn k => if k ∈ ks then .ok k else .bad
  | _ => .bad
def lookF (env : Env) (i : Nat) : R Val := match env[i]? with
  | some (some (v, false)) => .ok v
  | _ => .bad
def opd (env : Env) (e : E) (r : R (Val × Bool)) : R Val := match e with
  | .bor i => look env i
  | _ => r.map (·.1)
def put (env : Env) (i : Nat) (v : Val) (own : Bool) : Env := env.set i (some (v, own))
def putAll (env : Env) : List Nat → List Val → R Env
  | [], [] => .ok env
  | i :: is, v :: vs => putAll (put env i v false) is vs
  | _, _ => .bad
def bindT (tg : Tg) (env : Env) (v : Val) : R Env := match tg with
  | .one i => .ok (put env i v false)
  | .tup is => match v with
    | .tup vs => if vs.length = is.length then putAll env is vs else .bad
    | _ => .bad
def tgs : Tg → List Nat
  | .one i => [i]
  | .tup is => is
def wipeE (env : Env) : List Nat → Env
  | [] => env
  | v :: vs => (wipeE env vs).set v none
def rngV (lo : Int) (n : Nat) : List Val := (List.range n).map fun (i : Nat) => .int (lo + i)
def itemsOf : Val → R (List Val)
  | .lst xs => .ok xs
  | .tup xs => .ok xs
  | .str z => .ok (z.cps.toList.map fun c => .str ⟨#[c]⟩)
  | _ => .bad
def itemsR : Val → R (List Val)
  | .lst xs => .ok xs
  | .tup xs => .ok xs
  | _ => .bad
def zipV : Val → Val → R (List Val)
  | .lst xs, .lst ys => .ok (List.zipWith (fun x y => .tup [x, y]) xs ys)
  | .tup xs, .tup ys => .ok (List.zipWith (fun x y => .tup [x, y]) xs ys)
  | _, _ => .bad
def lcLoop (tg : Tg) (env : Env) (c : Env → R Bool) (f : Env → R Val) : List Val → R (List Val)
  | [] => .ok []
  | x :: xs => (bindT tg env x).bind fun env' => (c env').bind fun b =>
    if b then (f env').bind fun v => (lcLoop tg env c f xs).bind fun vs => .ok (v :: vs) else lcLoop tg env c f xs
def newForm : E → Bool
  | .bin _ _ _ => true
  | .slc _ _ _ => true
  | .rev _ => true
  | .lst _ => true
  | .blt _ _ => true
  | .lc _ _ _ _ => true
  | _ => false
def mk (e : E) (v : Val) : Val × Bool := (v, newForm e && isLst v)
def rngOk (n : Int) : Bool := Nat.ble n.natAbs 16000000
theorem rng_ok {n : Int} (h : -1000000 ≤ n ∧ n ≤ 1000000) : rngOk n = true := Nat.ble_eq_true_of_le (by omega)
theorem rng_big {n : Int} (h : -16000000 ≤ n ∧ n ≤ 16000000) : rngOk n = true := Nat.ble_eq_true_of_le (by omega)
theorem rng_of {n : Int} (h : rngOk n = true) : -16000000 ≤ n ∧ n ≤ 16000000 := by have := Nat.le_of_ble_eq_true h; omega
section
variable (cl : Nat → List Val → R (Val × Bool))
def lent (env : Env) : List E → Bool
  | [] => false
  | .bor i :: r => (match env[i]? with | some (some (_, true)) => true | _ => false) || lent env r
  | _ :: r => lent env r
def backOk (p : Val × Bool) : Bool := noL p.1 || (p.2 && match p.1 with | .lst xs => noLs xs | _ => false)
def newF (f : Nat) : Bool := f == 33
def evCall (env : Env) (f : Nat) (as : List E) (vs : List Val) : R (Val × Bool) :=
  (cl f vs).bind fun p => if lent env as && !(backOk p || newF f) then .bad else .ok p
mutual
def evE : E → Env → R (Val × Bool)
  | .nm i, env => (lookF env i).map (·, false)
  | .bor _, _ => .bad
  | .cst v, _ => .ok (v, false)
  | .bin o a b, env => (opd env a (evE a env)).bind fun x => (opd env b (evE b env)).bind fun y => (evBin o x y).map fun v => (v, isLst v)
  | .neg a, env => (opd env a (evE a env)).bind fun x => (toI x).bind fun i => .ok (.int (-i), false)
  | .cmp o a b, env => (opd env a (evE a env)).bind fun x => (opd env b (evE b env)).bind fun y => (evCmp o x y).map (·, false)
  | .isn n a, env => (opd env a (evE a env)).bind fun x => .ok (.bl (if n then !isNon x else isNon x), false)
  | .chn o o' a b c, env => (opd env a (evE a env)).bind fun x => (opd env b (evE b env)).bind fun y => (evCmp o x y).bind fun z => (toB z).bind fun k =>
      if k then (opd env c (evE c env)).bind fun w => (evCmp o' y w).map (·, false) else .ok (.bl false, false)
  | .inn n a b, env => (opd env a (evE a env)).bind fun x => (opd env b (evE b env)).bind fun y => (evIn n x y).map (·, false)
  | .and a b, env => (opd env a (evE a env)).bind fun x => (toB x).bind fun k => if k then (opd env b (evE b env)).bind fun y => (toB y).bind fun k' => .ok (.bl k', false) else .ok (.bl false, false)
  | .or a b, env => (opd env a (evE a env)).bind fun x => (toB x).bind fun k => if k then .ok (.bl true, false) else (opd env b (evE b env)).bind fun y => (toB y).bind fun k' => .ok (.bl k', false)
  | .not a, env => (opd env a (evE a env)).bind fun x => (toB x).bind fun k => .ok (.bl (!k), false)
  | .ifx c a b, env => (opd env c (evE c env)).bind fun x => (truth x).bind fun k => if k then (evE a env).map fun p => (p.1, false) else (evE b env).map fun p => (p.1, false)
  | .ix a b, env => (opd env a (evE a env)).bind fun x => (opd env b (evE b env)).bind fun y => (evIx x y).map (·, false)
  | .slc a lo hi, env => (opd env a (evE a env)).bind fun x => (evO lo env).bind fun l => (evO hi env).bind fun h => (evSlc l h x).map fun v => (v, isLst v)
  | .rev a, env => (opd env a (evE a env)).bind fun x => (evRev x).map fun v => (v, isLst v)
  | .tup as, env => (evEs as env).bind fun vs => .ok (.tup vs, false)
  | .lst as, env => (evEs as env).bind fun vs => .ok (.lst vs, true)
  | .call f as, env => (evAs as env).bind fun vs => evCall cl env f as vs
  | .blt f as, env => (evAs as env).bind fun vs => (evBf f vs).map fun v => (v, isLst v)
  | .isi a cs, env => (opd env a (evE a env)).bind fun x => (isiA x cs).bind fun b => .ok (.bl b, false)
  | .lc tg it cond el, env => (evIt it env).bind fun xs => if !lenOk xs.length then .bad else (lcLoop tg (wipeE env (tgs tg)) (fun env' => (evC cond env').noexc) (fun env' => ((evE el env').map (·.1)).noexc) xs).bind fun vs => .ok (.lst vs, true)
  | .ls a, env => (opd env a (evE a env)).bind fun x => (evLs x).map (·, false)
  | .sm a, env => (opd env a (evE a env)).bind fun x => (evSm x).map (·, false)
  | .jn s a, env => (opd env a (evE a env)).bind fun x => (evJn s x).map (·, false)
  | .pt a s, env => (opd env a (evE a env)).bind fun x => (evPt s x).map (·, false)
  | .sp a s, env => (opd env a (evE a env)).bind fun x => (evSp s x).map (·, true)
  | .fnv k, _ => .ok (.fn k, false)
  | .cal i ks as, env => (fnAt env i ks).bind fun k => (evAs as env).bind fun vs => evCall cl env k as vs
  | .dl ks vs, _ => if okDl ks vs then .ok (.dk ks vs, true) else .bad
  | .get a b, env => (opd env a (evE a env)).bind fun x => (R.guard (isDct x)).bind fun _ => (opd env b (evE b env)).bind fun y => (evGet x y).map (·, false)
  | .cax e ks as, env => (evE e env).bind fun p => (fnOf ks p.1).bind fun k => (evAs as env).bind fun vs => evCall cl env k as vs
def evEs : List E → Env → R (List Val)
  | [], _ => .ok []
  | e :: es, env => (evE e env).bind fun p => (evEs es env).bind fun vs => .ok (p.1 :: vs)
/-- arguments: lent -/
def evAs : List E → Env → R (List Val)
  | [], _ => .ok []
  | e :: es, env => (opd env e (evE e env)).bind fun v => (evAs es env).bind fun vs => .ok (v :: vs)
def evO : Option E → Env → R (Option Int)
  | none, _ => .ok none
  | some e, env => (opd env e (evE e env)).bind fun x => (toI x).map some
def evC : Option E → Env → R Bool
  | none, _ => .ok true
  | some e, env => (opd env e (evE e env)).bind fun x => truth x
def evIt : It → Env → R (List Val)
  | .val e, env => (opd env e (evE e env)).bind itemsOf
  | .rng1 a, env => (opd env a (evE a env)).bind fun x => (toI x).bind fun n => if rngOk n then .ok (rngV 0 n.toNat) else .bad
  | .rng2 a b, env => (opd env a (evE a env)).bind fun x => (opd env b (evE b env)).bind fun y => (toI x).bind fun m => (toI y).bind fun n => if rngOk m && rngOk n then .ok (rngV m (n - m).toNat) else .bad
  | .rvd e, env => (opd env e (evE e env)).bind fun x => (itemsR x).map List.reverse
  | .zip a b, env => (opd env a (evE a env)).bind fun x => (opd env b (evE b env)).bind fun y => zipV x y
end
def evT (e : E) (env : Env) : R Bool := (opd env e (evE cl e env)).bind truth
inductive O where
  | nx (env : Env) | brk (env : Env) | cnt (env : Env) | ret (v : Val) (fr : Bool) | rtn (vs : List Val) | exc (c : Nat) (env : Env) | bad
def rO {α : Type} (env : Env) (r : R α) (f : α → O) : O := match r with
  | .ok a => f a
  | .exc c => .exc c env
  | .bad => .bad
def O.thn (o : O) (f : Env → O) : O := match o with
  | .nx env => f env
  | o => o
def whlN (c : Env → R Bool) (b : Env → O) : Nat → Env → Option O
  | 0, _ => none
  | n + 1, env => match c env with
    | .ok true => match b env with
      | .nx env' => whlN c b n env'
      | .cnt env' => whlN c b n env'
      | .brk env' => some (.nx env')
      | o => some o
    | .ok false => some (.nx env)
    | .exc x => some (.exc x env)
    | .bad => some .bad
open Classical in
noncomputable def whl (c : Env → R Bool) (b : Env → O) (env : Env) : O := if h : ∃ n o, whlN c b n env = some o then Classical.choose (Classical.choose_spec h) else .bad
def forL (tg : Tg) (b : Env → O) : List Val → Env → O
  | [], env => .nx env
  | x :: xs, env => match bindT tg env x with
    | .ok env1 => match b env1 with
      | .nx env' => forL tg b xs env'
      | .cnt env' => forL tg b xs env'
      | .brk env' => .nx env'
      | o => o
    | _ => .bad
def frz (env : Env) (i : Nat) : Env := match env[i]? with
  | some (some (v, _)) => env.set i (some (v, false))
  | _ => env
def frzAll (env : Env) : List Nat → Env
  | [] => env
  | i :: is => frzAll (frz env i) is
mutual
/-- the names that are read to be kept -/
def kept : E → List Nat
  | .nm i => [i]
  | .bor _ => []
  | .cst _ => []
  | .bin _ a b => kept a ++ kept b
  | .neg a => kept a
  | .cmp _ a b => kept a ++ kept b
  | .isn _ a => kept a
  | .chn _ _ a b c => kept a ++ kept b ++ kept c
  | .inn _ a b => kept a ++ kept b
  | .and a b => kept a ++ kept b
  | .or a b => kept a ++ kept b
  | .not a => kept a
  | .ifx c a b => kept c ++ kept a ++ kept b
  | .ix a b => kept a ++ kept b
  | .slc a lo hi => kept a ++ keptO lo ++ keptO hi
  | .rev a => kept a
  | .tup as => keptL as
  | .lst as => keptL as
  | .call _ as => keptL as
  | .blt _ as => keptL as
  | .isi a _ => kept a
  | .lc _ it c e => keptI it ++ keptO c ++ kept e
  | .ls a => kept a
  | .sm a => kept a
  | .jn _ a => kept a
  | .pt a _ => kept a
  | .sp a _ => kept a
  | .fnv _ => []
  | .cal _ _ as => keptL as
  | .dl _ _ => []
  | .get a b => kept a ++ kept b
  | .cax e _ as => kept e ++ keptL as
def keptL : List E → List Nat
  | [] => []
  | e :: es => kept e ++ keptL es
def keptO : Option E → List Nat
  | none => []
  | some e => kept e
def keptI : It → List Nat
  | .val e => kept e
  | .rng1 a => kept a
  | .rng2 a b => kept a ++ kept b
  | .rvd e => kept e
  | .zip a b => kept a ++ kept b
end
def borI : It → Bool
  | .val (.bor _) => true
  | .rvd (.bor _) => true
  | .zip (.bor _) _ => true
  | .zip _ (.bor _) => true
  | _ => false
def zipI : It → Bool
  | .zip _ _ => true
  | _ => false
def frzE (env : Env) (e : E) : Env := frzAll env (kept e)
def frzI (env : Env) (it : It) : Env := frzAll env (keptI it)
def ownL (env : Env) (i : Nat) : R (List Val) := match env[i]? with
  | some (some (.lst xs, true)) => .ok xs
  | _ => .bad
def ownD (env : Env) (i : Nat) : R (List (List Int × FV)) := match env[i]? with
  | some (some (.dct kvs, true)) => .ok kvs
  | _ => .bad
def ownK (env : Env) (i : Nat) : R (List Val × List Val) := match env[i]? with
  | some (some (.dk ks vs, true)) => .ok (ks, vs)
  | _ => .bad
def ixPut (xs : List Val) (k : Int) (v : Val) : R (List Val) := match L2.ixN xs.length k with
  | some j => .ok (xs.set j v)
  | none => .bad
def evRet (e : E) (env : Env) : R (Val × Bool) := match e with
  | .nm i => match env[i]? with
    | some (some p) => .ok p
    | _ => .bad
  | e => evE cl e (frzE env e)
def keepS : Option (Val × Bool) → Option (Val × Bool)
  | some (.lst vs, true) => if noLs vs then some (.lst vs, true) else none
  | some (v, false) => if noL v then some (v, false) else none
  | _ => none
def keepE (env : Env) : Env := env.map keepS
def shN : Option (Val × Bool) → Bool
  | none => true
  | some (v, false) => noL v
  | some (_, true) => false
def trmG (w : Nat) (c : Env → R Bool) (s : Env → R (Val × Bool)) : List Val → Env → List Val → Bool → List Val → Option (Env × List Val)
  | [], env, d, b, ws => some (env, d ++ [.tup [.bl b, .lst ws]])
  | v :: vs, env, d, b, ws => if noL v then (match c (put env w v false) with
    | .ok true => (match s (put env w v false) with
      | .ok (.tup [.bl k, .lst []], false) => if lenOk (d.length + 2) then trmG w c s vs (put env w v false) (d ++ [.tup [.bl b, .lst ws]]) k [] else none
      | _ => none)
    | .ok false => if lenOk (ws.length + 1) then trmG w c s vs (put env w v false) d b (ws ++ [v]) else none
    | _ => none) else none
def trmO (i w : Nat) (r : R (Val × Bool)) (it : R (List Val)) (c : Env → R Bool) (s : Env → R (Val × Bool)) (env : Env) : O :=
  if env.all shN && !(i == w) && (decide (i < env.length) && decide (w < env.length)) then (match r with
    | .ok (.lst [.tup [.bl b, .lst []]], true) => (match it with
      | .ok vs => (match trmG w c s vs (env.set i none) [] b [] with
        | some (env', d) => .nx (put env' i (.lst d) false)
        | none => .bad)
      | _ => .bad)
    | _ => .bad) else .bad
def rtO : Val × Bool → O
  | (.tup vs, false) => .rtn vs
  | _ => .bad
mutual
noncomputable def evS : S → Env → O
  | .set i e, env => rO (frzE env e) (evE cl e (frzE env e)) fun p => .nx (put (frzE env e) i p.1 p.2)
  | .par i j a b, env => rO (frzAll env (kept a ++ kept b)) (evEs cl [a, b] (frzAll env (kept a ++ kept b))) fun vs => match vs with
    | [x, y] => if i = j then .bad else .nx (put (put (frzAll env (kept a ++ kept b)) i x false) j y false)
    | _ => .bad
  | .par3 i j k a b c, env => rO (frzAll env (kept a ++ kept b ++ kept c)) (evEs cl [a, b, c] (frzAll env (kept a ++ kept b ++ kept c))) fun vs => match vs with
    | [x, y, z] => if i = j ∨ i = k ∨ j = k then .bad else .nx (put (put (put (frzAll env (kept a ++ kept b ++ kept c)) i x false) j y false) k z false)
    | _ => .bad
  | .unp is e, env => rO (frzE env e) (evE cl e (frzE env e)) fun p => match bindT (.tup is) (frzE env e) p.1 with
    | .ok env' => .nx env'
    | _ => .bad
  | .six i k e, env => rO (frzE env e) (evE cl e (frzE env e)) fun p => rO (frzE env e) (ownL (frzE env e) i) fun xs => rO (frzE env e) ((opd (frzE env e) k (evE cl k (frzE env e))).bind toI) fun k => rO (frzE env e) (ixPut xs k p.1) fun ys => .nx (put (frzE env e) i (.lst ys) true)
  | .app i e, env => rO (frzE env e) (ownL (frzE env e) i) fun xs => rO (frzE env e) (evE cl e (frzE env e)) fun p => if lenOk (xs.length + 1) then .nx (put (frzE env e) i (.lst (xs ++ [p.1])) true) else .bad
  | .pop i, env => rO env (ownL env i) fun xs => if xs.isEmpty then .bad else .nx (put env i (.lst xs.dropLast) true)
  | .popu is i, env => rO env (ownL env i) fun xs => match xs.getLast? with
    | some v => if i ∈ is then .bad else match bindT (.tup is) (put env i (.lst xs.dropLast) true) v with
      | .ok env' => .nx env'
      | _ => .bad
    | none => .bad
  | .popi j i k, env => rO env (ownL env i) fun xs => match xs.getLast? with
    | some v => if i = j then .bad else rO env (evIx v (.int k)) fun u => .nx (put (put env i (.lst xs.dropLast) true) j u false)
    | none => .bad
  | .rev i, env => rO env (ownL env i) fun xs => .nx (put env i (.lst xs.reverse) true)
  | .ins i k e, env => rO (frzE env e) (ownL (frzE env e) i) fun xs => rO (frzE env e) ((opd (frzE env e) k (evE cl k (frzE env e))).bind toI) fun k => rO (frzE env e) (evE cl e (frzE env e)) fun p => if lenOk (xs.length + 1) && decide (0 ≤ k ∧ k ≤ 1000000) then .nx (put (frzE env e) i (.lst (xs.take k.toNat ++ [p.1] ++ xs.drop k.toNat)) true) else .bad
  | .clr i, env => rO env (ownL env i) fun _ => .nx (put env i (.lst []) true)
  | .ret e, env => rO env (evRet cl e env) fun p => .ret p.1 p.2
  | .retn, _ => .ret .non false
  | .rett e, env => rO env (evE cl e (frzE (keepE env) e)) rtO
  | .trm i w el ec e2 ei, env => trmO i w (evE cl el env) (evIt cl (.val ei) (env.set i none)) (fun e => evT cl ec e) (fun e => evE cl e2 e) env
  | .ifs c a b, env => rO (frzE env c) (evT cl c (frzE env c)) fun k => if k then evSs a (frzE env c) else evSs b (frzE env c)
  | .whl c b, env => whl (fun env' => evT cl c env') (fun env' => evSs b env') (frzE env c)
  | .for tg it b, env => if borI it then .bad else rO (frzI env it) (evIt cl it (frzI env it)) fun xs => forL tg (fun env' => evSs b env') xs (frzI env it)
  | .exp e, env => rO (frzE env e) (evE cl e (frzE env e)) fun _ => .nx (frzE env e)
  | .rse c, env => .exc c env
  | .trya b c n h, env => match evSs b env with
    | .exc x env' => if excSub x c then (match evSs h (put env' n (.exc x) false) with
      | .nx env2 => .nx (env2.set n none)
      | .ret v fr => .ret v fr
      | _ => .bad) else .exc x env'
    | o => o
  | .pass, env => .nx env
  | .mut _ _, _ => .bad
  | .dnew i, env => .nx (put env i (.dct []) true)
  | .dput i k e, env => rO (frzE env e) (evE cl e (frzE env e)) fun p => rO (frzE env e) (ownD (frzE env e) i) fun kvs => rO (frzE env e) (opd (frzE env e) k (evE cl k (frzE env e))) fun kv => match keyOf kv, FV.of p.1 with
    | some ks, some v => if lenOk (kvs.length + 1) then .nx (put (frzE env e) i (.dct (dput kvs ks v)) true) else .bad
    | _, _ => .bad
  | .kput i k e, env => rO (frzE env e) (evE cl e (frzE env e)) fun p => rO (frzE env e) (ownK (frzE env e) i) fun d => rO (frzE env e) (opd (frzE env e) k (evE cl k (frzE env e))) fun kv => if isK kv && noL p.1 && lenOk (d.1.length + 1) then .nx (put (frzE env e) i (.dk (dkP d.1 d.2 kv p.1).1 (dkP d.1 d.2 kv p.1).2) true) else .bad
noncomputable def evSs : List S → Env → O
  | [], env => .nx env
  | s :: ss, env => match evS s env with
    | .nx env' => evSs ss env'
    | o => o
end
end
def kd : Val → Nat
  | .non => 1
  | .bl _ => 2
  | .int _ => 3
  | .str _ => 4
  | .tup _ => 5
  | _ => 0
def kdiff : Val → Val → Bool
  | .tup xs, .tup ys => !decide (xs.length = ys.length)
  | v, w => !decide (kd v = kd w) && !decide (kd v = 0) && !decide (kd w = 0)
def differ : List Val → List Val → Bool
  | [], [] => false
  | [], _ :: _ => true
  | _ :: _, [] => true
  | v :: _, w :: _ => kdiff v w
mutual
/-- no list within can be the one of these items -/
def apartV (m : List Val) : Val → Bool
  | .tup vs => apartVs m vs
  | .lst vs => differ m vs && apartVs m vs
  | .hid => false
  | _ => true
def apartVs (m : List Val) : List Val → Bool
  | [] => true
  | v :: vs => apartV m v && apartVs m vs
end
mutual
/-- what is known of a value when the list of these items was changed -/
def hideV (m : List Val) : Val → Val
  | .tup vs => .tup (hideVs m vs)
  | .lst vs => if differ m vs then .lst (hideVs m vs) else .hid
  | v => v
def hideVs (m : List Val) : List Val → List Val
  | [] => []
  | v :: vs => hideV m v :: hideVs m vs
end
def hideS (m : List Val) : Option (Val × Bool) → Option (Val × Bool)
  | some (v, false) => some (hideV m v, false)
  | some (.lst vs, true) => some (.lst (hideVs m vs), true)
  | some (v, true) => some (v, true)
  | none => none
def hideE (m : List Val) (env : Env) : Env := env.map (hideS m)
mutual
/-- all lists hidden -/
def hideAV : Val → Val
  | .tup vs => .tup (hideAVs vs)
  | .lst _ => .hid
  | v => v
def hideAVs : List Val → List Val
  | [] => []
  | v :: vs => hideAV v :: hideAVs vs
end
def hideAS : Option (Val × Bool) → Option (Val × Bool)
  | some (v, false) => some (hideAV v, false)
  | some (.lst vs, true) => some (.lst (hideAVs vs), true)
  | some (v, true) => some (v, true)
  | none => none
def hideAE (env : Env) : Env := env.map hideAS
section
variable (cl : Nat → List Val → R (Val × Bool))
def setI {α : Type} (xs : List α) (k : Int) (v : α) : List α := match L2.ixN xs.length k with
  | some j => xs.set j v
  | none => xs
def frzL (e : E) (env : Env) : R (List Val) := (evE cl e env).bind fun p => match p with
  | (.lst vs, false) => .ok vs
  | _ => .bad
def isHid (e : E) (env : Env) : Bool := match evE cl e env with
  | .ok (.hid, false) => true
  | _ => false
def mutO (args : List Val) (e : E) (w : MW) (env : Env) : O := match w with
  | .app a => rO (frzE env a) (frzL cl e (frzE env a)) fun vm => rO (frzE env a) (evE cl a (frzE env a)) fun _ => if lenOk (vm.length + 1) && apartVs vm args then .nx (hideE vm (frzE env a)) else .bad
  | .pop => rO env (frzL cl e env) fun vm => if !vm.isEmpty && apartVs vm args then .nx (hideE vm env) else .bad
  | .revp => match e with
    | .ix (.bor i) (.cst (.int k)) => (match env[i]? with
      | some (some (.tup vs, false)) => (match L2.atI vs k with
        | some (.lst vm) => if apartVs vm args then .nx (put (hideE vm env) i (.tup (setI (hideVs vm vs) k (.lst (hideVs vm vm).reverse))) false) else .bad
        | _ => .bad)
      | _ => .bad)
    | _ => .bad
  | _ => if isHid cl e env && noLs args then .nx (hideAE env) else rO env (frzL cl e env) fun vm => if apartVs vm args then .nx (hideE vm env) else .bad
def forTn (tg : Tg) (b1 b2 : Env → O) : Nat → List Val → Env → O
  | n + 1, v :: vs, env => match bindT tg env v with
    | .ok env1 => (match b1 env1 with
      | .nx env' => forTn tg b1 b2 n vs env'
      | .cnt env' => forTn tg b1 b2 n vs env'
      | .brk env' => .nx env'
      | .bad => (match b2 env1 with
        | .nx env' => forTn tg b1 b2 n (hideAVs vs) env'
        | .cnt env' => forTn tg b1 b2 n (hideAVs vs) env'
        | .brk env' => .nx env'
        | o => o)
      | o => o)
    | _ => .bad
  | _, [], env => .nx env
  | 0, _ :: _, _ => .bad
def forMO (tg : Tg) (b1 b2 : Env → O) (env : Env) : It → O
  | .val (.nm f) => (match env[f]? with
    | some (some (.tup vs, false)) => forTn tg b1 b2 vs.length vs env
    | _ => .bad)
  | _ => .bad
mutual
noncomputable def evT1 (args : List Val) : S → Env → O
  | .mut e w, env => mutO cl args e w env
  | .app i e, env => match env[i]? with
    | some (some (_, false)) => mutO cl args (.nm i) (.app e) env
    | _ => evS cl (.app i e) env
  | .ifs c a b, env => rO (frzE env c) (evT cl c (frzE env c)) fun k => if k then evTs args a (frzE env c) else evTs args b (frzE env c)
  | .for tg it b, env => match evS cl (.for tg it b) env with
    | .bad => forMO tg (fun e => evSs cl b e) (fun e => evTs args b e) env it
    | o => o
  | s, env => evS cl s env
noncomputable def evTs (args : List Val) : List S → Env → O
  | [], env => .nx env
  | s :: ss, env => match evT1 args s env with
    | .nx env' => evTs args ss env'
    | o => o
end
end
mutual
def mut1 : S → Bool
  | .mut _ _ => true
  | .ifs _ a b => hasMut a || hasMut b
  | .for (.one p) (.val (.nm _)) [.ifs (.isi (.bor q) [.ty _]) [.app r _] []] => p == q && q == r
  | _ => false
def hasMut : List S → Bool
  | [] => false
  | s :: ss => mut1 s || hasMut ss
end
structure FD where
  np : Nat
  nl : Nat
  body : List S
  deriving Repr
def startE (nl : Nat) (vs : List Val) : Env := vs.map (fun v => some (v, false)) ++ List.replicate (nl - vs.length) none
def fin : O → R (Val × Bool)
  | .nx _ => .ok (.non, false)
  | .ret v fr => .ok (v, fr)
  | .exc c _ => .exc c
  | _ => .bad
def finN : O → R (Val × Bool)
  | .rtn vs => .ok (.tup vs, false)
  | .exc c _ => .exc c
  | _ => .bad
noncomputable def callF (FT : Nat → Option FD) : Nat → Nat → List Val → R (Val × Bool)
  | 0, _, _ => .bad
  | n + 1, f, vs => match FT f with
    | some d => if vs.length = d.np then (if newF f then finN (evSs (callF FT n) d.body (startE d.nl vs)) else fin (if hasMut d.body then evTs (callF FT n) vs d.body (startE d.nl vs) else evSs (callF FT n) d.body (startE d.nl vs))) else .bad
    | none => .bad
def fnName : Nat → Str
  | 4 => "plus"
  | 6 => "times"
  | 13 => "added"
  | 16 => "multiplied"
  | 139 => "_law_sum"
  | 140 => "_law_product"
  | 145 => "_law_times"
  | 156 => "_law_plus"
  | _ => Str.empty
def noComp : Expr → Bool
  | .ListComp _ _ _ _ => false
  | .SetComp _ _ _ _ => false
  | .DictComp _ _ _ _ _ => false
  | _ => true
def cstE : Expr → Option Val
  | .Constant (.int i) _ _ => some (.int i)
  | .Constant (.str s) _ _ => some (.str s)
  | .Constant (.bool b) _ _ => some (.bl b)
  | .Constant .none _ _ => some .non
  | _ => none
def cstsE : List Expr → Option (List Val)
  | [] => some []
  | e :: es => (cstE e).bind fun v => (cstsE es).map (v :: ·)
def cstsO : List (Option Expr) → Option (List Val)
  | [] => some []
  | some e :: es => (cstE e).bind fun v => (cstsO es).map (v :: ·)
  | none :: _ => none
end G

set_option linter.all false
set_option maxHeartbeats 1000000
namespace G
open PySem PySem.Spec PyProof.Rows L2
abbrev DL := List (List Int × Addr × FV)
def entI (x : List Int × Addr × Value) : DictEntry := ⟨reduceHash (Builtin.Tuple.tupleHashOf (x.1.map hashInt)), .ref x.2.1, x.2.2⟩
abbrev DP : DL → List (List Int × Addr × Value) → Prop := Paired fun (p : List Int × Addr × FV) q => p.1 = q.1 ∧ p.2.1 = q.2.1 ∧ RelV p.2.2.v q.2.2
def DctF (ds : DL) (a : Addr) (h : Heap) : Prop := (a == sysModules) = false ∧ ds.length ≤ sizeLine ∧ ∃ xs, DP ds xs ∧ ∃ o es ep, h.get? a = some o ∧ o.ExactDict ∧ o.data = .dict es ep ∧ es.toList = xs.map entI ∧ (xs.map (·.1)).Nodup
def DctO (ds : DL) (a : Addr) : HO := .ext (DctF ds a)
theorem dct_ok {P : Program} {w : World} {H : Hp} {h : Heap} {ds : DL} {a : Addr} (f : DctF ds a h) : ObjOk P w H h a (DctO ds a) := by
  refine ⟨f, ?_, fun h1 h2 f1 k => ?_⟩
  · obtain ⟨_, _, _, _, o, _, _, e, _⟩ := f
    exact ⟨o, e⟩
  · obtain ⟨a1, a2, xs, a3, o, es, ep, e, r⟩ := f1
    exact ⟨a1, a2, xs, a3, o, es, ep, k _ e, r⟩
theorem ent_eq {P : Program} {w : World} (x : List Int × Addr × Value) : entryOfKey (tupleKind (intKind P w)) x = entI x := rfl
theorem ints_are {P : Program} {w : World} : ∀ {ks : List Int} {us : List Value}, Vals (ks.map V.int) us → ItemsAre (intKind P w) ks us
  | [], _, r => by rw [List.map_nil] at r; cases r; exact .nil
  | k :: ks, _, r => by
    rw [List.map_cons] at r
    cases r with
    | cons h t =>
      refine .cons ?_ (ints_are t)
      obtain ⟨t, rfl⟩ := (show ∃ t, _ = Value.int k t from h)
      show Value.isInt k (.int k t) = true
      simp [Value.isInt]
section
variable {X : Cx} {pins : List (Addr × Obj)} {σ : L2.St} {H : Hp} {s : Shared} {a b : Addr} {ds : DL} {ks : List Int} {A : Around} {E : Value → Shared → Prop}
theorem key_sq (I : Inv X pins σ H s) (q : SqT X.K H b (ks.map V.int)) : (tupleKind (intKind X.prog X.w)).is s.heap ks b := by
  rcases q with q | ⟨o, its, n, h1, h2, h3, h4, h5⟩
  · obtain ⟨_, its, r, o, h1, h2, n, h3⟩ := (show ObjOk X.prog X.w H s.heap b (.tup (ks.map V.int)) from q.ok I.hok)
    exact ⟨o, its.toArray, n, h1, h2, h3, ints_are (by simpa using r)⟩
  · exact ⟨o, its, n, I.kIn b o h1, h2, h3, ints_are h5⟩
theorem DP.keys : ∀ {ds : DL} {xs : List (List Int × Addr × Value)}, DP ds xs → ∀ x ∈ xs, ∃ d ∈ ds, d.1 = x.1 ∧ d.2.1 = x.2.1
  | _, _, .nil, _, h => by cases h
  | _, _, .cons h t, x, hx => by
    rcases List.mem_cons.mp hx with rfl | hx
    · exact ⟨_, List.mem_cons_self, h.1, h.2.1⟩
    · obtain ⟨d, h1, h2⟩ := DP.keys t x hx
      exact ⟨d, List.mem_cons_of_mem _ h1, h2⟩
def dfnd (ds : DL) (k : List Int) : Option FV := (ds.find? fun d => decide (d.1 = k)).map (·.2.2)
def dpt (ds : DL) (k : List Int) (b : Addr) (v : FV) : DL := if (dfnd ds k).isSome = true then ds.map (fun d => if d.1 = k then (d.1, d.2.1, v) else d) else ds ++ [(k, b, v)]
theorem DP.val {ds : DL} {xs : List (List Int × Addr × Value)} (r : DP ds xs) (k : List Int) : RelO ((dfnd ds k).map FV.v) ((atKey xs k).map (·.2)) := by
  induction r with
  | nil => exact True.intro
  | @cons p q ps qs h t ih =>
    obtain ⟨h1, _, h2⟩ := h
    by_cases e : p.1 = k
    · have e' : q.1 = k := h1.symm.trans e
      have b1 : atKey (q :: qs) k = some q.2 := by simp [atKey, List.find?_cons, e']
      have b2 : dfnd (p :: ps) k = some p.2.2 := by simp [dfnd, List.find?_cons, e]
      rw [b1, b2]; exact h2
    · have e' : ¬ q.1 = k := fun z => e (h1.trans z)
      have b1 : atKey (q :: qs) k = atKey qs k := by simp [atKey, List.find?_cons, e']
      have b2 : dfnd (p :: ps) k = dfnd ps k := by simp [dfnd, List.find?_cons, e]
      rw [b1, b2]; exact ih
theorem DP.repl {ds : DL} {xs : List (List Int × Addr × Value)} (r : DP ds xs) (k : List Int) {v : FV} {u : Value} (ry : RelV v.v u) : DP (ds.map fun d => if d.1 = k then (d.1, d.2.1, v) else d) (xs.map (putAt k u)) := by
  induction r with
  | nil => exact .nil
  | @cons p q ps qs h t ih =>
    rw [List.map_cons, List.map_cons]
    refine .cons ?_ ih
    obtain ⟨h1, h2, h3⟩ := h
    unfold putAt
    by_cases e : p.1 = k
    · rw [if_pos e, if_pos (h1.symm.trans e)]; exact ⟨h1, h2, ry⟩
    · rw [if_neg e, if_neg (fun z => e (h1.trans z))]; exact ⟨h1, h2, h3⟩
theorem DP.put {ds : DL} {xs : List (List Int × Addr × Value)} (r : DP ds xs) (k : List Int) (b : Addr) {v : FV} {u : Value} (ry : RelV v.v u) : DP (dpt ds k b v) (storedH xs k b u) := by
  have e : (dfnd ds k).isSome = (atKey xs k).isSome := by
    have := RelO.isSome_eq (r.val k)
    rw [Option.isSome_map, Option.isSome_map] at this
    exact this
  unfold dpt storedH
  rw [e]
  by_cases q : (atKey xs k).isSome = true
  · rw [if_pos q, if_pos q]; exact r.repl k ry
  · rw [if_neg q, if_neg q]; exact Paired.snoc r ⟨rfl, rfl, ry⟩
def DK (K : PySem.W.Frag) (H : Hp) (ds : DL) : Prop := ∀ d ∈ ds, SqT K H d.2.1 (d.1.map V.int)
theorem dict_of (I : Inv X pins σ H s) (e : H a = some (DctO ds a)) (hk : DK X.K H ds) : (a == sysModules) = false ∧ ds.length ≤ sizeLine ∧ ∃ xs, DP ds xs ∧ s.heap.DictOfH (tupleKind (intKind X.prog X.w)) a xs := by
  obtain ⟨⟨h1, h2, xs, h3, o, es, ep, h4, h5, h6, h7, h8⟩, _⟩ := (show ObjOk X.prog X.w H s.heap a (DctO ds a) from I.hok a _ e)
  refine ⟨h1, h2, xs, h3, o, es, ep, h4, h5, h6, h7, fun x hx => ?_, h8⟩
  obtain ⟨d, d1, d2, d3⟩ := h3.keys x hx
  rw [← d2, ← d3]
  exact key_sq I (hk d d1)
theorem dd_get {k : List Int} {v : FV} {Q : Value → Shared → Prop} (hu : A.units + 1 < cLine) (I : Inv X pins σ H s) (e : H a = some (DctO ds a)) (hk : DK X.K H ds) (qk : SqT X.K H b (k.map V.int)) (hv : dfnd ds k = some v)
    (h : ∀ w' s', Inv X pins σ H s' → RelV v.v w' → Q w' s') : wpAny (model X.prog X.w) A (getItem (.ref a) (.ref b)) Q E s := by
  obtain ⟨_, _, xs, rel, dd⟩ := dict_of I e hk
  have rv := rel.val k
  rw [hv] at rv
  cases hp : atKey xs k with
  | none => rw [hp] at rv; exact rv.elim
  | some p =>
    rw [hp] at rv
    exact wpAny_getItem_heap (tupleKind_room_in1 hu) (key_sq I qk) dd hp (h p.2 _ (I.tok _) rv)
theorem dd_in {k : List Int} {Q : Value → Shared → Prop} (hu : A.units + 1 < cLine) (I : Inv X pins σ H s) (e : H a = some (DctO ds a)) (hk : DK X.K H ds) (qk : SqT X.K H b (k.map V.int))
    (h : ∀ s', Inv X pins σ H s' → Q (.bool (dfnd ds k).isSome) s') : wpAny (model X.prog X.w) A (compareOp .In (.ref b) (.ref a)) Q E s := by
  obtain ⟨hd, _, xs, rel, dd⟩ := dict_of I e hk
  refine wpAny_in_heap (tupleKind_room_in1 hu) (key_sq I qk) hd dd ?_
  have q := RelO.isSome_eq (rel.val k)
  rw [Option.isSome_map, Option.isSome_map] at q
  rw [← q]
  exact h _ (I.tok _)
theorem dd_notIn {k : List Int} {Q : Value → Shared → Prop} (hu : A.units + 1 < cLine) (I : Inv X pins σ H s) (e : H a = some (DctO ds a)) (hk : DK X.K H ds) (qk : SqT X.K H b (k.map V.int))
    (h : ∀ s', Inv X pins σ H s' → Q (.bool (!(dfnd ds k).isSome)) s') : wpAny (model X.prog X.w) A (compareOp .NotIn (.ref b) (.ref a)) Q E s := by
  obtain ⟨hd, _, xs, rel, dd⟩ := dict_of I e hk
  refine wpAny_notIn_heap (tupleKind_room_in1 hu) (key_sq I qk) hd dd ?_
  have q := RelO.isSome_eq (rel.val k)
  rw [Option.isSome_map, Option.isSome_map] at q
  rw [← q]
  exact h _ (I.tok _)
theorem dpt_len (ds : DL) (k : List Int) (b : Addr) (v : FV) : (dpt ds k b v).length ≤ ds.length + 1 := by
  unfold dpt
  split
  · rw [List.length_map]; omega
  · rw [List.length_append]; exact Nat.le_refl _
theorem dd_set {k : List Int} {v : FV} {r : Value} {Q : Unit → Shared → Prop} (hu : A.units + 1 < cLine) (I : Inv X pins σ H s) (e : H a = some (DctO ds a)) (hk : DK X.K H ds) (qk : SqT X.K H b (k.map V.int)) (rv : RelV v.v r) (hl : ds.length < sizeLine)
    (h : ∀ s', Inv X pins σ (upd H a (DctO (dpt ds k b v) a)) s' → Q () s') : wpAny (model X.prog X.w) A (setItem (.ref a) (.ref b) r) Q E s := by
  obtain ⟨hd, z, xs, rel, dd⟩ := dict_of I e hk
  have hz : xs.length ≤ sizeLine := by rw [← Paired.length rel]; exact z
  refine wpAny_setItem_heap (hsz := hz) (tupleKind_room_in1 hu) (key_sq I qk) dd fun h' dd' hs => h _ ?_
  obtain ⟨q, es, ep, hq, h2, h3, h4, _, h5⟩ := dd'
  have len := dpt_len ds k b v
  exact d_write I (by rw [e]; exact True.intro) hs ⟨q, hq⟩ (dct_ok ⟨hd, by omega, _, rel.put k b rv, q, es, ep, hq, h2, h3, h4, h5⟩)
theorem pe_dct {pos : Pos} : PE X (.Dict [] [] pos) (fun _ H Q => ∀ p, H p = none → Q (.ref p) (upd H p (DctO [] p))) := ⟨fun pins s σ H Q I h =>
  wpAny_Dict_empty ⟨.ref s.heap.objs.size, _, I.laid (a := s.heap.objs.size) (o := DctO [] s.heap.objs.size) (t' := s.toks) (fun _ _ q => Heap.get?_push_of_some _ q) (Nat.le_refl _)
    (dct_ok ⟨beq_eq_false_iff_ne.mpr (Ne.symm (Nat.ne_of_lt I.big)), Nat.zero_le _, [], .nil, _, #[], 0, Heap.get?_push_size _ rfl, ⟨rfl, rfl, rfl⟩, rfl, rfl, List.nodup_nil⟩), rfl, h _ (I.hok.fresh (Nat.le_refl _))⟩⟩
end
def errO (cls : Value) : Obj := { cls := cls, dict := none, data := .fields #[.none, .none, .none], slots := #[] }
def errH (cls : Value) (n : Nat) : Heap := { objs := Array.replicate n (errO cls) }
theorem errH_get {cls : Value} {n a : Nat} (h : a < n) : (errH cls n).get? a = some (errO cls) := by
  unfold errH Heap.get?
  simp [Array.getElem?_replicate, h, errO]
theorem ext_ne {cls : Value} {b a : Addr} {ds : DL} (e : HO.ext (fun h => ∃ (oe : Obj) (vs : Array Value), h.get? b = some oe ∧ L2N.Zn cls none oe ∧ oe.data = .fields vs) = DctO ds a) : False := by
  have e : (fun h : Heap => ∃ (oe : Obj) (vs : Array Value), h.get? b = some oe ∧ L2N.Zn cls none oe ∧ oe.data = .fields vs) = DctF ds a := by injection e
  have h1 : DctF ds a (errH cls (a + b + 1)) := by
    rw [← e]
    exact ⟨errO cls, _, errH_get (by omega), ⟨rfl, rfl, fun vs e => by cases e; rfl⟩, rfl⟩
  obtain ⟨_, _, _, _, o, es, ep, g4, _, g5, _⟩ := h1
  rw [errH_get (by omega)] at g4
  cases g4
  cases g5
end G

set_option linter.all false
set_option maxHeartbeats 1000000
namespace G
open PySem PySem.Spec PyProof.Rows
open L2 hiding Takes XE CX takes_of passes_call ps_raise PMk MkP mk_of pmk_own passAt ps_try_as ps_try_many HdsOk
open L2N (Takes XE CX takes_of passes_call ps_raise PMk MkP mk_of pmk_own passAt)
def ExT (cls : Value) (a : Addr) : HO := .ext fun h => ∃ (oe : Obj) (vs : Array Value), h.get? a = some oe ∧ L2N.Zn cls none oe ∧ oe.data = .fields vs
def SqK (K : PySem.W.Frag) (H : Hp) (a : Addr) (xs : List V) : Prop :=
  (∃ o, H a = some (.frz o (.lst xs))) ∨
    ∃ (o : Obj) (its : Array Value) (n : Nat), K.lookup a = some o ∧ o.cls = .type "list" ∧ o.dict = none ∧ o.data = .seq its n ∧ its.size ≤ sizeLine ∧ Vals xs its.toList
theorem SqK.l {K : PySem.W.Frag} {H : Hp} {a : Addr} {xs : List V} (h : SqK K H a xs) : SqL K H a xs := h.imp (fun q => .inr q) id
def kG : Key → Val
  | .inl i => .int i
  | .inr s => .str s
def dvl (ds : DL) : List (List Int × FV) := ds.map fun d => (d.1, d.2.2)
mutual
inductive RV (K : PySem.W.Frag) (CA : Nat → Option Addr) (H : Hp) (P : Addr → Prop) : Val → V → Prop
  | non : RV K CA H P .non .non
  | bl (b : Bool) : RV K CA H P (.bl b) (.bl b)
  | int (i : Int) : RV K CA H P (.int i) (.int i)
  | str (s : Str) : RV K CA H P (.str s) (.str s)
  | tup {a : Addr} {xs : List V} {vs : List Val} : SqT K H a xs → RVs K CA H P vs xs → RV K CA H P (.tup vs) (.ref a)
  | lst {a : Addr} {xs : List V} {vs : List Val} : P a → H a = some (.lst xs) → RVs K CA H P vs xs → RV K CA H P (.lst vs) (.ref a)
  | scr {a : Addr} {ns : List Int} : SqK K H a (ns.map .int) → RV K CA H P (.scr ns) (.ref a)
  | exc {a C : Addr} {c : Nat} : CA c = some C → H a = some (ExT (.ref C) a) → RV K CA H P (.exc c) (.ref a)
  | hid {a : Addr} {xs : List V} : P a → H a = some (.lst xs) → RV K CA H P .hid (.ref a)
  | fn {f : Addr} {k : Nat} : PySem.W.nsIn K mainGlobals (fnName k) = some (some (.ref f)) → RV K CA H P (.fn k) (.ref f)
  | dct {a : Addr} {ds : DL} : P a → H a = some (DctO ds a) → DK K H ds → RV K CA H P (.dct (dvl ds)) (.ref a)
  | dk {a : Addr} {kvs : List (Key × V)} {vs : List Val} : P a → H a = some (.dK kvs) → noLs vs = true → RVs K CA H P vs (kvs.map (·.2)) → RV K CA H P (.dk (kvs.map fun kv => kG kv.1) vs) (.ref a)
inductive RVs (K : PySem.W.Frag) (CA : Nat → Option Addr) (H : Hp) (P : Addr → Prop) : List Val → List V → Prop
  | nil : RVs K CA H P [] []
  | cons {v : Val} {x : V} {vs : List Val} {xs : List V} : RV K CA H P v x → RVs K CA H P vs xs → RVs K CA H P (v :: vs) (x :: xs)
end
structure Bs where
  h : Hp
  p : Addr → Prop
section
variable {K : PySem.W.Frag} {CA : Nat → Option Addr} {H H' H2 : Hp} {H0 : Bs} {P P' P2 : Addr → Prop}
inductive Fix : HO → Prop
  | tup (xs : List V) : Fix (.tup xs)
  | frz (o : Obj) (u : HO) : Fix (.frz o u)
  | ext (cls : Value) (a : Addr) : Fix (ExT cls a)
def Pers (P : Addr → Prop) (H H' : Hp) : Prop := ∀ a o, H a = some o → (P a ∨ Fix o) → H' a = some o
theorem Pers.refl : Pers P H H := fun _ _ h _ => h
theorem Pers.of_same (h : Same H H') : Pers P H H' := fun a o e _ => h a o e
theorem Pers.trans (h : Pers P H H') (h' : Pers P' H' H2) (hp : ∀ a, P a → P' a) : Pers P H H2 := fun a o e q => h' a o (h a o e q) (q.imp (hp a) id)
theorem Pers.sqT (h : Pers P H H') {a : Addr} {xs : List V} (s : SqT K H a xs) : SqT K H' a xs := by
  rcases s with (s | ⟨o, s⟩) | s
  · exact .inl (.inl (h a _ s (.inr (by first | exact .tup _ | exact .frz _ _))))
  · exact .inl (.inr ⟨o, h a _ s (.inr (by first | exact .tup _ | exact .frz _ _))⟩)
  · exact .inr s
theorem Pers.sqK (h : Pers P H H') {a : Addr} {xs : List V} (s : SqK K H a xs) : SqK K H' a xs := by
  rcases s with ⟨o, s⟩ | s
  · exact .inl ⟨o, h a _ s (.inr (by first | exact .tup _ | exact .frz _ _))⟩
  · exact .inr s
mutual
theorem RV.pers (h : Pers P H H') (hp : ∀ a, P a → P' a) : ∀ (v : Val) {x : V}, RV K CA H P v x → RV K CA H' P' v x
  | .non, _, r => by cases r; exact .non
  | .bl b, _, r => by cases r; exact .bl b
  | .int i, _, r => by cases r; exact .int i
  | .str s, _, r => by cases r; exact .str s
  | .tup vs, _, r => by
    cases r with
    | tup s t => exact .tup (h.sqT s) (RVs.pers h hp vs t)
  | .lst vs, _, r => by
    cases r with
    | lst p s t => exact .lst (hp _ p) (h _ _ s (.inl p)) (RVs.pers h hp vs t)
  | .scr ns, _, r => by
    cases r with
    | scr s => exact .scr (h.sqK s)
  | .exc c, _, r => by
    cases r with
    | exc c s => exact .exc c (h _ _ s (.inr (.ext _ _)))
  | .hid, _, r => by
    cases r with
    | hid p s => exact .hid (hp _ p) (h _ _ s (.inl p))
  | .fn k, _, r => by
    cases r with
    | fn e => exact .fn e
  | .dct kvs, _, r => by
    cases r with
    | dct p s k => exact .dct (hp _ p) (h _ _ s (.inl p)) fun d hd => h.sqT (k d hd)
  | .dk ks vs, _, r => by
    cases r with
    | dk p s n t => exact .dk (hp _ p) (h _ _ s (.inl p)) n (RVs.pers h hp vs t)
theorem RVs.pers (h : Pers P H H') (hp : ∀ a, P a → P' a) : ∀ (vs : List Val) {xs : List V}, RVs K CA H P vs xs → RVs K CA H' P' vs xs
  | [], _, r => by cases r; exact .nil
  | v :: vs, _, r => by
    cases r with
    | cons r t => exact .cons (RV.pers h hp v r) (RVs.pers h hp vs t)
end
theorem RV.mono {v : Val} {x : V} (r : RV K CA H P v x) (h : Same H H') (hp : ∀ a, P a → P' a) : RV K CA H' P' v x := RV.pers (.of_same h) hp v r
theorem RVs.mono {vs : List Val} {xs : List V} (r : RVs K CA H P vs xs) (h : Same H H') (hp : ∀ a, P a → P' a) : RVs K CA H' P' vs xs := RVs.pers (.of_same h) hp vs r
theorem RVs.length : ∀ {vs : List Val} {xs : List V}, RVs K CA H P vs xs → vs.length = xs.length
  | _, _, .nil => rfl
  | _, _, .cons _ t => congrArg (· + 1) t.length
theorem RVs.get : ∀ {vs : List Val} {xs : List V} {i : Nat} {v : Val}, RVs K CA H P vs xs → vs[i]? = some v → ∃ x, xs[i]? = some x ∧ RV K CA H P v x
  | _, _, _, _, .nil, e => by simp at e
  | _, _, 0, _, .cons r _, e => by simp at e; subst e; exact ⟨_, rfl, r⟩
  | _, _, i + 1, v, .cons r t, e => by
    obtain ⟨x, h1, h2⟩ := RVs.get (i := i) (v := v) t (by simpa using e)
    exact ⟨x, by simpa using h1, h2⟩
theorem RVs.get' : ∀ {vs : List Val} {xs : List V} {i : Nat} {x : V}, RVs K CA H P vs xs → xs[i]? = some x → ∃ v, vs[i]? = some v ∧ RV K CA H P v x
  | _, _, _, _, .nil, e => by simp at e
  | _, _, 0, _, .cons r _, e => by simp at e; subst e; exact ⟨_, rfl, r⟩
  | _, _, i + 1, v, .cons r t, e => by
    obtain ⟨x, h1, h2⟩ := RVs.get' (i := i) (x := v) t (by simpa using e)
    exact ⟨x, by simpa using h1, h2⟩
theorem RVs.append : ∀ {vs ws : List Val} {xs ys : List V}, RVs K CA H P vs xs → RVs K CA H P ws ys → RVs K CA H P (vs ++ ws) (xs ++ ys)
  | _, _, _, _, .nil, s => s
  | _, _, _, _, .cons r t, s => .cons r (RVs.append t s)
theorem RVs.set {v : Val} {x : V} (r : RV K CA H P v x) : ∀ {vs : List Val} {xs : List V} (i : Nat), RVs K CA H P vs xs → RVs K CA H P (vs.set i v) (xs.set i x)
  | _, _, _, .nil => .nil
  | _, _, 0, .cons _ t => .cons r t
  | _, _, i + 1, .cons q t => .cons q (RVs.set r i t)
theorem RVs.take : ∀ {vs : List Val} {xs : List V} (n : Nat), RVs K CA H P vs xs → RVs K CA H P (vs.take n) (xs.take n)
  | _, _, 0, _ => .nil
  | _, _, _ + 1, .nil => .nil
  | _, _, n + 1, .cons r t => .cons r (RVs.take n t)
theorem RVs.drop : ∀ {vs : List Val} {xs : List V} (n : Nat), RVs K CA H P vs xs → RVs K CA H P (vs.drop n) (xs.drop n)
  | _, _, 0, r => r
  | _, _, _ + 1, .nil => .nil
  | _, _, n + 1, .cons _ t => RVs.drop n t
theorem RVs.dropLast {vs : List Val} {xs : List V} (h : RVs K CA H P vs xs) : RVs K CA H P vs.dropLast xs.dropLast := by
  rw [List.dropLast_eq_take, List.dropLast_eq_take, h.length]
  exact h.take _
theorem RVs.reverse : ∀ {vs : List Val} {xs : List V}, RVs K CA H P vs xs → RVs K CA H P vs.reverse xs.reverse
  | _, _, .nil => .nil
  | _, _, .cons r t => by
    rw [List.reverse_cons, List.reverse_cons]
    exact RVs.append (RVs.reverse t) (.cons r .nil)
theorem RVs.rep {vs : List Val} {xs : List V} (h : RVs K CA H P vs xs) : ∀ k : Nat, RVs K CA H P (List.replicate k vs).flatten (List.replicate k xs).flatten
  | 0 => .nil
  | k + 1 => by
    rw [List.replicate_succ, List.replicate_succ, List.flatten_cons, List.flatten_cons]
    exact RVs.append h (RVs.rep h k)
theorem RVs.cut {vs : List Val} {xs : List V} (h : RVs K CA H P vs xs) (lo hi : Option Int) : RVs K CA H P (cut vs lo hi) (cutV xs lo hi) := by
  unfold G.cut cutV
  rw [h.length]
  exact (h.drop _).take _
mutual
/-- what holds no list leans on no frozen list -/
theorem RV.noL : ∀ (v : Val) {x : V}, G.noL v = true → RV K CA H P v x → RV K CA H P' v x
  | .non, _, _, r => by cases r; exact .non
  | .bl b, _, _, r => by cases r; exact .bl b
  | .int i, _, _, r => by cases r; exact .int i
  | .str s, _, _, r => by cases r; exact .str s
  | .tup vs, _, n, r => by
    cases r with
    | tup s t => exact .tup s (RVs.noL vs n t)
  | .lst vs, _, n, r => by cases n
  | .scr vs, _, n, r => by
    cases r with
    | scr s => exact .scr s
  | .exc c, _, _, r => by
    cases r with
    | exc c s => exact .exc c s
  | .hid, _, n, r => by cases n
  | .fn k, _, n, r => by
    cases r with
    | fn e => exact .fn e
  | .dct kvs, _, n, r => by cases n
  | .dk _ _, _, n, r => by cases n
theorem RVs.noL : ∀ (vs : List Val) {xs : List V}, G.noLs vs = true → RVs K CA H P vs xs → RVs K CA H P' vs xs
  | [], _, _, r => by cases r; exact .nil
  | v :: vs, _, n, r => by
    cases r with
    | cons r t =>
      have n' : (G.noL v && G.noLs vs) = true := n
      rw [Bool.and_eq_true] at n'
      exact .cons (RV.noL v n'.1 r) (RVs.noL vs n'.2 t)
end
mutual
theorem RV.dp : ∀ (v : Val) {x : V}, G.isD v = true → RV K CA H P v x → Dp K H x (dat v)
  | .non, _, _, r => by cases r; exact .non
  | .bl b, _, _, r => by cases r; exact .bl b
  | .int i, _, _, r => by cases r; exact .int i
  | .str s, _, _, r => by cases r; exact .str s
  | .tup vs, _, n, r => by
    cases r with
    | tup s t => exact .tup s (RVs.dp vs n t)
  | .lst vs, _, n, r => by
    cases r with
    | lst p s t => exact .lst (SqL.of s) (RVs.dp vs n t)
  | .scr vs, _, n, r => by cases n
  | .exc c, _, n, r => by cases n
  | .hid, _, n, r => by cases n
  | .fn _, _, n, r => by cases n
  | .dct _, _, n, r => by cases n
  | .dk _ _, _, n, r => by cases n
theorem RVs.dp : ∀ (vs : List Val) {xs : List V}, G.isDs vs = true → RVs K CA H P vs xs → DpAll K H xs (dats vs)
  | [], _, _, r => by cases r; exact .nil
  | v :: vs, _, n, r => by
    cases r with
    | cons r t =>
      have n' : (G.isD v && G.isDs vs) = true := n
      rw [Bool.and_eq_true] at n'
      exact .cons (RV.dp v n'.1 r) (RVs.dp vs n'.2 t)
end
def Grow (P : Addr → Prop) (H : Hp) (P' : Addr → Prop) : Prop := (∀ a, P a → P' a) ∧ ∀ a, P' a → P a ∨ H a = none
theorem Grow.refl : Grow P H P := ⟨fun _ h => h, fun _ h => .inl h⟩
theorem Grow.trans (h : Grow P H P') (s : Same H H') (h' : Grow P' H' P2) : Grow P H P2 :=
  ⟨fun a q => h'.1 a (h.1 a q), fun a q => (h'.2 a q).elim (h.2 a) fun z => .inr (s.free z)⟩
theorem Grow.add (h : Grow P H P') {a : Addr} (n : H a = none) : Grow P H (fun b => P' b ∨ b = a) :=
  ⟨fun b q => .inl (h.1 b q), fun b q => q.elim (h.2 b) fun e => .inr (by rw [e]; exact n)⟩
def Mt (o : HO) : Prop := (∃ xs, o = .lst xs) ∨ (∃ ds a, o = DctO ds a) ∨ ∃ kvs, o = .dK kvs
theorem Mt.l {xs : List V} : Mt (.lst xs) := .inl ⟨_, rfl⟩
theorem Mt.d {ds : DL} {a : Addr} : Mt (DctO ds a) := .inr (.inl ⟨_, _, rfl⟩)
theorem Mt.k {kvs : List (Key × V)} : Mt (.dK kvs) := .inr (.inr ⟨_, rfl⟩)
theorem Mt.nf {o : HO} (h : Mt o) : ¬ Fix o := fun z => by
  rcases h with ⟨xs, rfl⟩ | ⟨ds, a, h⟩ | ⟨kvs, rfl⟩
  · generalize hx : HO.lst xs = y at z
    cases z <;> first | (cases hx; done) | (unfold ExT at hx; cases hx)
  · cases z with
    | tup xs => unfold DctO at h; cases h
    | frz o u => unfold DctO at h; cases h
    | ext cls b => exact ext_ne h
  · generalize hx : HO.dK kvs = y at z
    cases z <;> first | (cases hx; done) | (unfold ExT at hx; cases hx)
def Trk (P : Addr → Prop) (H : Hp) : Prop := ∀ a, P a → ∃ o, H a = some o ∧ Mt o
structure Step (P : Addr → Prop) (H : Hp) (P' : Addr → Prop) (H' : Hp) : Prop where
  s : Same H H'
  g : Grow P H P'
  t : Trk P' H'
theorem Step.refl (t : Trk P H) : Step P H P H := ⟨Same.refl _, .refl, t⟩
theorem Step.trans (a : Step P H P' H') (b : Step P' H' P2 H2) : Step P H P2 H2 := ⟨a.s.trans b.s, a.g.trans a.s b.g, b.t⟩
theorem Step.addO (a : Step P H P' H') {p : Addr} {o : HO} (n : H p = none) (e : H' p = some o) (m : Mt o) : Step P H (fun b => P' b ∨ b = p) H' :=
  ⟨a.s, a.g.add n, fun b q => q.elim (a.t b) fun z => by rw [z]; exact ⟨_, e, m⟩⟩
theorem Step.add (a : Step P H P' H') {p : Addr} {xs : List V} (n : H p = none) (e : H' p = some (.lst xs)) : Step P H (fun b => P' b ∨ b = p) H' :=
  ⟨a.s, a.g.add n, fun b q => q.elim (a.t b) fun z => by rw [z]; exact ⟨_, e, .l⟩⟩
inductive OwnO (K : PySem.W.Frag) (CA : Nat → Option Addr) (H : Hp) (P : Addr → Prop) (a : Addr) : Val → HO → Prop
  | lst {vs : List Val} {xs : List V} : RVs K CA H P vs xs → OwnO K CA H P a (.lst vs) (.lst xs)
  | dct {ds : DL} : DK K H ds → OwnO K CA H P a (.dct (dvl ds)) (DctO ds a)
  | dk {kvs : List (Key × V)} {vs : List Val} : noLs vs = true → RVs K CA H P vs (kvs.map (·.2)) → OwnO K CA H P a (.dk (kvs.map fun kv => kG kv.1) vs) (.dK kvs)
theorem DK.same {ds : DL} (k : DK K H ds) (s : Same H H') : DK K H' ds := fun d hd => (Pers.of_same (P := fun _ => False) s).sqT (k d hd)
theorem OwnO.mono {v : Val} {o : HO} {a : Addr} (h : OwnO K CA H P a v o) (s : Same H H') (hp : ∀ a, P a → P' a) : OwnO K CA H' P' a v o := by
  cases h with
  | lst r => exact .lst (r.mono s hp)
  | dct k => exact .dct (k.same s)
  | dk n r => exact .dk n (r.mono s hp)
theorem OwnO.pers {v : Val} {o : HO} {a : Addr} (h : OwnO K CA H P a v o) (s : Pers P H H') (hp : ∀ a, P a → P' a) : OwnO K CA H' P' a v o := by
  cases h with
  | lst r => exact .lst (RVs.pers s hp _ r)
  | dct k => exact .dct fun d hd => s.sqT (k d hd)
  | dk n r => exact .dk n (RVs.pers s hp _ r)
theorem OwnO.mt {v : Val} {o : HO} {a : Addr} (h : OwnO K CA H P a v o) : Mt o := by
  cases h with
  | lst r => exact .l
  | dct k => exact .d
  | dk n r => exact .k
theorem OwnO.rv {v : Val} {o : HO} {a : Addr} (h : OwnO K CA H P a v o) (e : H a = some o) (hp : P a) : RV K CA H P v (.ref a) := by
  cases h with
  | lst r => exact .lst hp e r
  | dct k => exact .dct hp e k
  | dk n r => exact .dk hp e n r
structure ER (K : PySem.W.Frag) (CA : Nat → Option Addr) (H0 : Bs) (H : Hp) (P : Addr → Prop) (env : Env) (σ : L2.St) : Prop where
  ext : Same H0.h H
  gr : Grow H0.p H0.h P
  trk : Trk P H
  len : env.length = σ.length
  shr : ∀ (i : Nat) v, env[i]? = some (some (v, false)) → ∃ x, σ[i]? = some (some x) ∧ RV K CA H P v x
  own : ∀ (i : Nat) v, env[i]? = some (some (v, true)) → ∃ a o, σ[i]? = some (some (.ref a)) ∧ H a = some o ∧ ¬ P a ∧ H0.h a = none ∧ OwnO K CA H P a v o
  dis : ∀ (i j : Nat) v w a, env[i]? = some (some (v, true)) → env[j]? = some (some (w, true)) → σ[i]? = some (some (.ref a)) → σ[j]? = some (some (.ref a)) → i = j
def OwnAt (env : Env) (σ : L2.St) (i : Nat) (a : Addr) : Prop := (∃ v, env[i]? = some (some (v, true))) ∧ σ[i]? = some (some (.ref a))
def LA (env : Env) (σ : L2.St) (e : E) (a : Addr) : Prop := ∃ i, e = .bor i ∧ OwnAt env σ i a
theorem LA.no {env : Env} {σ : L2.St} {e : E} {a : Addr} (h : ∀ i, e ≠ .bor i) : ¬ LA env σ e a := fun ⟨i, q, _⟩ => h i q
section
variable {env : Env} {σ : L2.St}
theorem ER.grow (r : ER K CA H0 H P env σ) (st : Step P H P' H') : ER K CA H0 H' P' env σ where
  ext := r.ext.trans st.s
  gr := r.gr.trans r.ext st.g
  trk := st.t
  len := r.len
  shr := fun i v e => by
    obtain ⟨x, h1, h2⟩ := r.shr i v e
    exact ⟨x, h1, h2.mono st.s st.g.1⟩
  own := fun i v e => by
    obtain ⟨a, o, h2, h3, h4, h5, h6⟩ := r.own i v e
    refine ⟨a, o, h2, st.s _ _ h3, fun q => ?_, h5, h6.mono st.s st.g.1⟩
    rcases st.g.2 a q with q | q
    · exact h4 q
    · rw [h3] at q; cases q
  dis := r.dis
theorem OwnAt.at (r : ER K CA H0 H P env σ) {i : Nat} {a : Addr} (h : OwnAt env σ i a) : ∃ v o, env[i]? = some (some (v, true)) ∧ σ[i]? = some (some (.ref a)) ∧ H a = some o ∧ ¬ P a ∧ H0.h a = none ∧ OwnO K CA H P a v o := by
  obtain ⟨⟨v, h1⟩, h2⟩ := h
  obtain ⟨b, o, e2, e3, e4, e5, e6⟩ := r.own i v h1
  rw [h2] at e2
  cases e2
  exact ⟨v, o, h1, h2, e3, e4, e5, e6⟩
def RF (K : PySem.W.Frag) (CA : Nat → Option Addr) (H H' : Hp) (P' : Addr → Prop) (p : Val × Bool) (x : V) : Prop :=
  (p.2 = false ∧ RV K CA H' P' p.1 x) ∨ (p.2 = true ∧ ∃ a o, x = .ref a ∧ H a = none ∧ H' a = some o ∧ ¬ P' a ∧ OwnO K CA H' P' a p.1 o)
theorem RF.rv {p : Val × Bool} {x : V} (h : RF K CA H H' P' p x) (g : Step P H P' H') : ∃ P2, Step P H P2 H' ∧ (∀ a, P' a → P2 a) ∧ RV K CA H' P2 p.1 x := by
  rcases h with ⟨_, h⟩ | ⟨_, a, o, h2, h3, h4, h5, h6⟩
  · exact ⟨P', g, fun _ q => q, h⟩
  · refine ⟨fun b => P' b ∨ b = a, g.addO h3 h4 h6.mt, fun _ q => .inl q, ?_⟩
    rw [h2]
    exact (h6.mono (Same.refl _) fun _ q => .inl q).rv h4 (.inr rfl)
theorem RF.back {p : Val × Bool} {x : V} (h : RF K CA H' H2 P' p x) (s : Same H H') : RF K CA H H2 P' p x := by
  rcases h with h | ⟨h0, a, o, h2, h3, h4, h5, h6⟩
  · exact .inl h
  · exact .inr ⟨h0, a, o, h2, s.free h3, h4, h5, h6⟩
end
end
end G

set_option linter.all false
set_option maxHeartbeats 2000000
set_option maxRecDepth 100000
namespace G
open PySem PySem.Spec PyProof.Rows
open L2 hiding Takes XE CX takes_of passes_call ps_raise PMk MkP mk_of pmk_own passAt ps_try_as ps_try_many HdsOk
open L2N (Takes XE CX takes_of passes_call ps_raise PMk MkP mk_of pmk_own passAt)
theorem _root_.L2.PE.imp {X : Cx} {e : Expr} {t t' : TE} (h : PE X e t) (i : ∀ σ H Q, t' σ H Q → t σ H Q) : PE X e t' := ⟨fun pins s σ H Q I q => h.run pins s σ H Q I (i σ H Q q)⟩
theorem _root_.L2.PT.imp {X : Cx} {e : Expr} {t t' : TT} (h : PT X e t) (i : ∀ σ H Q, t' σ H Q → t σ H Q) : PT X e t' := ⟨fun pins s σ H Q I q => h.run pins s σ H Q I (i σ H Q q)⟩
theorem _root_.L2.PW.imp {X : Cx} {e : Expr} {t t' : TT} (h : PW X e t) (i : ∀ σ H Q, t' σ H Q → t σ H Q) : PW X e t' := ⟨fun w pins s σ H Q I q => h.run w pins s σ H Q I (i σ H Q q)⟩
theorem _root_.L2.PA.imp {X : Cx} {es : List Expr} {t t' : TA} (h : PA X es t) (i : ∀ σ H Q, t' σ H Q → t σ H Q) : PA X es t' := ⟨fun pos pins s σ H Q I q => h.run pos pins s σ H Q I (i σ H Q q)⟩
theorem _root_.L2.PS.imp {X : Cx} {st : Stmt} {t t' : TS} (h : PS X st t) (i : ∀ D σ H, t' D σ H → t D σ H) : PS X st t' := ⟨fun pins s σ H D I q => h.run pins s σ H D I (i D σ H q)⟩
theorem _root_.L2.PSs.imp {X : Cx} {st : List Stmt} {t t' : TS} (h : PSs X st t) (i : ∀ D σ H, t' D σ H → t D σ H) : PSs X st t' := ⟨fun pins s σ H D I q => h.run pins s σ H D I (i D σ H q)⟩
theorem LIM_le {n : Nat} (h : lenOk n = true) : n ≤ sizeLine := Nat.le_trans (of_decide_eq_true h) (by decide)
theorem LIM_lt {n : Nat} (h : lenOk (n + 1) = true) : n < sizeLine := Nat.lt_of_lt_of_le (Nat.lt_succ_self n) (LIM_le h)
section
variable {K : PySem.W.Frag} {CA : Nat → Option Addr} {H H' H2 : Hp} {H0 : Bs} {P P' P2 L M : Addr → Prop} {v : Val} {x : V}
def RVo (K : PySem.W.Frag) (CA : Nat → Option Addr) (H : Hp) (P L : Addr → Prop) (v : Val) (x : V) : Prop :=
  RV K CA H P v x ∨ ∃ a o, L a ∧ x = .ref a ∧ H a = some o ∧ OwnO K CA H P a v o
theorem RVo.mono (h : RVo K CA H P L v x) (s : Same H H') (hp : ∀ a, P a → P' a) : RVo K CA H' P' L v x := by
  rcases h with h | ⟨a, o, h1, h3, h4, h5⟩
  · exact .inl (h.mono s hp)
  · exact .inr ⟨a, o, h1, h3, s _ _ h4, h5.mono s hp⟩
theorem RVo.rv (h : RVo K CA H P L v x) : RV K CA H (fun a => P a ∨ L a) v x := by
  rcases h with h | ⟨a, o, h1, h3, h4, h5⟩
  · exact h.mono (Same.refl _) fun _ q => .inl q
  · rw [h3]
    exact (h5.mono (Same.refl _) fun _ q => .inl q).rv h4 (.inr h1)
theorem RVo.lst {vs : List Val} (h : RVo K CA H P L (.lst vs) x) : ∃ a xs, x = .ref a ∧ H a = some (.lst xs) ∧ RVs K CA H P vs xs := by
  rcases h with h | ⟨a, o, h1, h3, h4, h5⟩
  · cases h with
    | lst p s t => exact ⟨_, _, rfl, s, t⟩
  · cases h5 with
    | lst r => exact ⟨a, _, h3, h4, r⟩
theorem RVo.dct {kvs : List (List Int × FV)} (h : RVo K CA H P L (.dct kvs) x) : ∃ a ds, x = .ref a ∧ H a = some (DctO ds a) ∧ kvs = dvl ds ∧ DK K H ds := by
  rcases h with h | ⟨a, o, h1, h3, h4, h5⟩
  · cases h with
    | dct p s k => exact ⟨_, _, rfl, s, rfl, k⟩
  · cases h5 with
    | dct k => exact ⟨a, _, h3, h4, rfl, k⟩
theorem RVo.dk {ks vs : List Val} (h : RVo K CA H P L (.dk ks vs) x) : ∃ a kvs, x = .ref a ∧ H a = some (.dK kvs) ∧ ks = kvs.map (fun kv => kG kv.1) ∧ noLs vs = true ∧ RVs K CA H P vs (kvs.map (·.2)) := by
  rcases h with h | ⟨a, o, h1, h3, h4, h5⟩
  · cases h with
    | dk p s n r => exact ⟨_, _, rfl, s, rfl, n, r⟩
  · cases h5 with
    | dk n r => exact ⟨a, _, h3, h4, rfl, n, r⟩
def isOw : Val → Bool
  | .lst _ => true
  | .dct _ => true
  | .dk _ _ => true
  | _ => false
theorem RVo.of (h : RVo K CA H P L v x) (n : isOw v = false) : RV K CA H P v x := by
  rcases h with h | ⟨a, o, h1, h3, h4, h5⟩
  · exact h
  · cases h5 <;> cases n
theorem RVo.int {i : Int} (h : RVo K CA H P L (.int i) x) : x = .int i := by
  cases h.of rfl; rfl
theorem RVo.bl {b : Bool} (h : RVo K CA H P L (.bl b) x) : x = .bl b := by
  cases h.of rfl; rfl
theorem RVo.str {s : Str} (h : RVo K CA H P L (.str s) x) : x = .str s := by
  cases h.of rfl; rfl
theorem RVo.non (h : RVo K CA H P L .non x) : x = .non := by
  cases h.of rfl; rfl
theorem RVo.tup {vs : List Val} (h : RVo K CA H P L (.tup vs) x) : ∃ a xs, x = .ref a ∧ SqT K H a xs ∧ RVs K CA H P vs xs := by
  cases h.of rfl with
  | tup s t => exact ⟨_, _, rfl, s, t⟩
theorem RVo.scr {ns : List Int} (h : RVo K CA H P L (.scr ns) x) : ∃ a, x = .ref a ∧ SqK K H a (ns.map .int) := by
  cases h.of rfl with
  | scr s => exact ⟨_, rfl, s⟩
def Out (K : PySem.W.Frag) (CA : Nat → Option Addr) (H : Hp) (P : Addr → Prop) (p : Val × Bool) (Q : VK) : Prop :=
  ∀ H' P' x, Step P H P' H' → RF K CA H H' P' p x → Q x H'
def OutN (K : PySem.W.Frag) (CA : Nat → Option Addr) (H : Hp) (p : Val × Bool) (Q : VK) : Prop :=
  ∀ H' S x, Same H H' → (∀ b, S b → H b = none ∧ ∃ o, H' b = some o ∧ Mt o) → p.2 = false → RV K CA H' S p.1 x → Q x H'
theorem Out.new {p : Val × Bool} {Q : VK} (o : Out K CA H P p Q) (t : Trk P H) : OutN K CA H p Q := fun H' S x s hS e r =>
  o H' (fun b => P b ∨ S b) x ⟨s, ⟨fun _ z => .inl z, fun b z => z.imp id fun z => (hS b z).1⟩, fun b z => z.elim (fun z => by
    obtain ⟨ys, e, m⟩ := t b z
    exact ⟨ys, s _ _ e, m⟩) fun z => (hS b z).2⟩ (.inl ⟨e, r.mono (Same.refl _) fun _ z => .inr z⟩)
theorem Out.here {Q : VK} (o : Out K CA H P (v, false) Q) (t : Trk P H) (r : RV K CA H P v x) : Q x H := o H P x (.refl t) (.inl ⟨rfl, r⟩)
theorem Out.int {Q : VK} {i : Int} (o : Out K CA H P (.int i, false) Q) (t : Trk P H) : Q (.int i) H := o.here t (.int i)
theorem Out.str {Q : VK} {z : Str} (o : Out K CA H P (.str z, false) Q) (t : Trk P H) : Q (.str z) H := o.here t (.str z)
theorem Out.bl {Q : VK} {b : Bool} (o : Out K CA H P (.bl b, false) Q) (t : Trk P H) : Q (.bl b) H := o.here t (.bl b)
theorem same_new {p : Addr} {o : HO} (h : H p = none) : Same H (upd H p o) := fun b u e => by
  rw [upd_ne (ne_of_none e h)]
  exact e
theorem step_new {p : Addr} {o : HO} (h : H p = none) (t : Trk P H) : Step P H P (upd H p o) := ⟨same_new h, .refl, fun a q => by
  obtain ⟨o, e, m⟩ := t a q
  exact ⟨o, same_new h _ _ e, m⟩⟩
theorem Trk.no {p : Addr} (t : Trk P H) (h : H p = none) : ¬ P p := fun q => by
  obtain ⟨o, e, _⟩ := t p q
  rw [h] at e; cases e
theorem Out.newL {Q : VK} {vs : List Val} {xs : List V} (o : Out K CA H P (.lst vs, true) Q) (t : Trk P H) (r : RVs K CA H P vs xs) : ∀ p, H p = none → Q (.ref p) (upd H p (.lst xs)) := fun p hp =>
  o _ P _ (step_new hp t) (.inr ⟨rfl, p, _, rfl, hp, upd_same, t.no hp, .lst (r.mono (same_new hp) fun _ q => q)⟩)
theorem Out.newT {Q : VK} {vs : List Val} {xs : List V} (o : Out K CA H P (.tup vs, false) Q) (t : Trk P H) (r : RVs K CA H P vs xs) : ∀ p, H p = none → Q (.ref p) (upd H p (.tup xs)) := fun p hp =>
  o _ P _ (step_new hp t) (.inl ⟨rfl, .tup (SqT.of upd_same) (r.mono (same_new hp) fun _ q => q)⟩)
end
section
variable {X : Cx}
def PyR (X : Cx) : Prop := ∀ pins σ H s, Inv X pins σ H s → PylongRoom (model X.prog X.w) X.A s
def rOp (K : PySem.W.Frag) (CA : Nat → Option Addr) (fl : Val → Bool) (f : Val → Val → R Val) : R2 := fun x y H Q => ∃ (va vb : Val) (P L M : Addr → Prop), Trk P H ∧ RVo K CA H P L va x ∧ RVo K CA H P M vb y ∧
  match f va vb with
  | .ok v => Out K CA H P (v, fl v) Q
  | _ => False
theorem rOp_ok {K : PySem.W.Frag} {CA : Nat → Option Addr} {fl : Val → Bool} {f : Val → Val → R Val} {va vb v : Val} {H : Hp} {P : Addr → Prop} {Q : VK}
    (h : match f va vb with | .ok v => Out K CA H P (v, fl v) Q | _ => False) (e : f va vb = .ok v) : Out K CA H P (v, fl v) Q := by
  rw [e] at h; exact h
theorem mulOk_ok {i j : Int} (h : mulOk i j = true) : IntMulOk i j := by
  have h3 : i.natAbs.log2 + j.natAbs.log2 < 134000000 := of_decide_eq_true h
  have b : ∀ x : Int, Builtin.Int.intBits x ≤ x.natAbs.log2 + 1 := fun x => by
    unfold Builtin.Int.intBits
    split <;> omega
  have h1 := b i
  have h2 := b j
  have e : bitsLine = 134217728 := by decide
  unfold IntMulOk
  intro z
  rw [Bool.and_eq_true] at z
  have z2 := z.2
  unfold Builtin.Int.intTooBig at z2
  have z3 := of_decide_eq_true z2
  rw [e] at z3
  omega
def opOf : BOp → Operator
  | .add => .Add
  | .sub => .Sub
  | .mul => .Mult
  | .fdiv => .FloorDiv
  | .mod => .Mod
  | .pow => .Pow
  | .band => .BitAnd
  | .shr => .RShift
variable {CA : Nat → Option Addr}
theorem op_bin (hp : PyR X) (o : BOp) : OpR X (binaryOp (opOf o)) (rOp X.K CA isLst (evBin o)) := by
  intro pins s σ H x y v u Q I rx ry h
  obtain ⟨va, vb, P, L, M, t, ra, rb, h⟩ := h
  cases o <;> cases va <;> cases vb <;> first | exact h.elim | skip
  all_goals first | (cases ra.int; cases rb.int) | skip
  case add.int.int i j => exact op_add pins s σ H _ _ v u Q I rx ry ⟨i, j, rfl, rfl, h.int t⟩
  case add.tup.tup vs ws =>
    obtain ⟨a, xs, rfl, sa, qa⟩ := ra.tup
    obtain ⟨b, ys, rfl, sb, qb⟩ := rb.tup
    cases hl : lenOk (vs.length + ws.length) with
    | false => simp only [evBin, hl] at h; exact h.elim
    | true =>
      have h := rOp_ok h (v := .tup (vs ++ ws)) (by simp only [evBin, hl]; rfl)
      refine op_catA pins s σ H _ _ v u Q I rx ry ⟨a, b, xs, ys, rfl, rfl, sa, sb, ?_, fun e => ?_, fun e1 e2 => ?_, fun e1 e2 => h.newT t (qa.append qb)⟩
      · rw [← qa.length, ← qb.length]; exact LIM_le hl
      · subst e
        cases qa
        exact h.here t (.tup sb qb)
      · subst e2
        cases qb
        rw [List.append_nil] at h
        exact h.here t (.tup sa qa)
  case add.lst.lst vs ws =>
    obtain ⟨a, xs, rfl, sa, qa⟩ := ra.lst
    obtain ⟨b, ys, rfl, sb, qb⟩ := rb.lst
    cases hl : lenOk (vs.length + ws.length) with
    | false => simp only [evBin, hl] at h; exact h.elim
    | true =>
      have h := rOp_ok h (v := .lst (vs ++ ws)) (by simp only [evBin, hl]; rfl)
      refine op_cat pins s σ H _ _ v u Q I rx ry ⟨a, b, xs, ys, rfl, rfl, sa, sb, ?_, h.newL t (qa.append qb)⟩
      rw [← qa.length, ← qb.length]; exact LIM_le hl
  case add.str.str a b =>
    cases ra.str
    cases rb.str
    cases hl : lenOk (a.length + b.length) with
    | false => simp only [evBin, hl] at h; exact h.elim
    | true =>
      have h := rOp_ok h (v := .str (a ++ b)) (by simp only [evBin, hl]; rfl)
      exact op_add_str pins s σ H _ _ v u Q I rx ry ⟨a, b, rfl, rfl, LIM_le hl, h.str t⟩
  case mul.str.int z k =>
    cases ra.str
    cases rb.int
    obtain ⟨tz, rfl⟩ := rx
    obtain ⟨tk, rfl⟩ := ry
    by_cases k0 : k = 0
    · subst k0
      have h : Out X.K CA H P (.str Str.empty, false) Q := h
      refine PySem.P.mul_str (by decide) (fun z => absurd (show (0 : Int) < 1 by decide) z) (fun z => absurd (show (0 : Int) < 1 by decide) z) ?_
      rw [if_pos (by decide)]
      exact ⟨Nat.zero_le _, .str Str.empty, H, I.tok _, ⟨_, rfl⟩, h.str t⟩
    · by_cases k1 : k = 1
      · subst k1
        have h : Out X.K CA H P (.str z, false) Q := h
        refine PySem.P.mul_str (by decide) (fun _ w => by rw [show ((1 : Int) == 1) = true from rfl] at w; cases w) (fun _ w => by rw [show ((1 : Int) == 1) = true from rfl] at w; cases w) ?_
        rw [if_neg (by decide), if_pos (by rfl)]
        exact ⟨.str z, H, I, ⟨_, rfl⟩, h.str t⟩
      · simp only [evBin, if_neg k0, if_neg k1] at h
  case sub.int.int i j => exact op_sub pins s σ H _ _ v u Q I rx ry ⟨i, j, rfl, rfl, h.int t⟩
  case mul.int.int i j =>
    cases hl : mulOk i j with
    | false => simp only [evBin, hl] at h; exact h.elim
    | true =>
      have h := rOp_ok h (v := .int (i * j)) (by simp only [evBin, hl]; rfl)
      obtain ⟨ti, rfl⟩ := rx
      obtain ⟨tj, rfl⟩ := ry
      exact mul_int ⟨.int (i * j), H, I.tok _, ⟨_, rfl⟩, h.int t⟩ (mulOk_ok hl)
  case mul.lst.int vs k =>
    obtain ⟨a, xs, rfl, sa, qa⟩ := ra.lst
    cases rb.int
    cases hl : (lenOk (vs.length * k.toNat) && decide (-1000000 ≤ k ∧ k ≤ 1000000)) with
    | false => simp only [evBin, hl] at h; exact h.elim
    | true =>
      have h := rOp_ok h (v := .lst (List.replicate k.toNat vs).flatten) (by simp only [evBin, hl]; rfl)
      rw [Bool.and_eq_true] at hl
      have hk := of_decide_eq_true hl.2
      refine op_rep pins s σ H _ _ v u Q I rx ry ⟨a, k, xs, rfl, rfl, sa, by omega, by omega, ?_, h.newL t (qa.rep _)⟩
      rw [← qa.length]; exact LIM_le hl.1
  case fdiv.int.int i j =>
    by_cases hj : j = 0
    · simp only [evBin, if_pos hj] at h
    · have h := rOp_ok h (v := .int (i.fdiv j)) (by simp only [evBin, if_neg hj])
      obtain ⟨ti, rfl⟩ := rx
      obtain ⟨tj, rfl⟩ := ry
      exact floordiv_int hj ⟨.int (i.fdiv j), H, I.tok _, ⟨_, rfl⟩, h.int t⟩ (.inr (hp pins σ H s I))
  case mod.int.int i j =>
    by_cases hj : j = 0
    · simp only [evBin, if_pos hj] at h
    · have h := rOp_ok h (v := .int (i.fmod j)) (by simp only [evBin, if_neg hj])
      exact op_modN pins s σ H _ _ v u Q I rx ry ⟨i, j, rfl, rfl, hj, h.int t⟩
  case pow.int.int i j =>
    cases hl : powOk i j with
    | false => simp only [evBin, hl] at h; exact h.elim
    | true =>
      have h := rOp_ok h (v := .int (i ^ j.toNat)) (by simp only [evBin, hl]; rfl)
      exact op_pow pins s σ H _ _ v u Q I rx ry ⟨i, j, rfl, rfl, (of_decide_eq_true hl : 0 ≤ j ∧ j ≤ 1000000 ∧ i.natAbs < 2 ^ 64), h.int t⟩
  case band.int.int i j => exact op_and pins s σ H _ _ v u Q I rx ry ⟨i, j, rfl, rfl, h.int t⟩
  case shr.int.int i j =>
    by_cases hj : 0 ≤ j
    · have h := rOp_ok h (v := .int (i / 2 ^ j.toNat)) (by simp only [evBin, if_pos hj])
      exact op_shr pins s σ H _ _ v u Q I rx ry ⟨i, j, rfl, rfl, hj, h.int t⟩
    · simp only [evBin, if_neg hj] at h
def cpOf : COp → CmpOp
  | .lt => .Lt
  | .le => .LtE
  | .gt => .Gt
  | .ge => .GtE
  | .eq => .Eq
  | .ne => .NotEq
  | .is => .Is
  | .isnt => .IsNot
theorem op_cmp (hu : X.A.units + 64 < cLine) (o : COp) : OpR X (compareOp (cpOf o)) (rOp X.K CA (fun _ => false) (evCmp o)) := by
  intro pins s σ H x y v u Q I rx ry h
  obtain ⟨va, vb, P, L, M, t, ra, rb, h⟩ := h
  have ed : ∀ {n : Bool} {w : Val}, (okD va && okD vb) = true → Dp X.K H x (dat va) ∧ Dp X.K H y (dat vb) ∧ SeqAt.shaped (dat va) = true ∧ SeqAt.shaped (dat vb) = true := fun {n w} e => by
    rw [Bool.and_eq_true] at e
    obtain ⟨e1, e2⟩ := e
    unfold okD at e1 e2
    rw [Bool.and_eq_true] at e1 e2
    exact ⟨RV.dp va e1.1 ra.rv, RV.dp vb e2.1 rb.rv, e1.2, e2.2⟩
  cases o
  case eq =>
    cases e : (okD va && okD vb) with
    | false => simp only [evCmp, e] at h; exact h.elim
    | true =>
      have h := rOp_ok h (v := .bl (PyData.eqv (dat va) (dat vb))) (by simp only [evCmp, e]; rfl)
      obtain ⟨d1, d2, d3, d4⟩ := ed (n := true) (w := va) e
      exact op_eqD hu pins s σ H _ _ v u Q I rx ry ⟨_, _, d1, d2, d3, d4, h.bl t⟩
  case ne =>
    cases e : (okD va && okD vb) with
    | false => simp only [evCmp, e] at h; exact h.elim
    | true =>
      have h := rOp_ok h (v := .bl (!PyData.eqv (dat va) (dat vb))) (by simp only [evCmp, e]; rfl)
      obtain ⟨d1, d2, d3, d4⟩ := ed (n := true) (w := va) e
      exact op_neD hu pins s σ H _ _ v u Q I rx ry ⟨_, _, d1, d2, d3, d4, h.bl t⟩
  case is =>
    cases va <;> cases vb <;> first | exact h.elim | skip
    cases ra.bl
    cases rb.bl
    exact op_is_bl pins s σ H _ _ v u Q I rx ry ⟨_, _, rfl, rfl, h.bl t⟩
  case isnt =>
    cases va <;> cases vb <;> first | exact h.elim | skip
    cases ra.bl
    cases rb.bl
    exact op_isnot_bl pins s σ H _ _ v u Q I rx ry ⟨_, _, rfl, rfl, h.bl t⟩
  all_goals
    cases va <;> cases vb <;> first | exact h.elim | skip
    cases ra.int
    cases rb.int
  · exact op_lt pins s σ H _ _ v u Q I rx ry ⟨_, _, rfl, rfl, h.bl t⟩
  · exact op_le pins s σ H _ _ v u Q I rx ry ⟨_, _, rfl, rfl, h.bl t⟩
  · exact op_gt pins s σ H _ _ v u Q I rx ry ⟨_, _, rfl, rfl, h.bl t⟩
  · exact op_ge pins s σ H _ _ v u Q I rx ry ⟨_, _, rfl, rfl, h.bl t⟩
end
end G

set_option linter.all false
set_option maxHeartbeats 2000000
set_option maxRecDepth 100000
namespace G
open PySem PySem.Spec PyProof.Rows HT
open L2 hiding Takes XE CX takes_of passes_call ps_raise PMk MkP mk_of pmk_own passAt ps_try_as ps_try_many HdsOk
open L2N (Takes XE CX takes_of passes_call ps_raise PMk MkP mk_of pmk_own passAt)
section
variable {X : Cx} {CA : Nat → Option Addr}
theorem atI_rv {K : PySem.W.Frag} {H : Hp} {P : Addr → Prop} {vs : List Val} {xs : List V} (r : RVs K CA H P vs xs) {i : Int} {v : Val} (h : atI vs i = some v) : ∃ x, atI xs i = some x ∧ RV K CA H P v x := by
  unfold atI at h ⊢
  rw [← r.length]
  cases e : ixN vs.length i with
  | none => rw [e] at h; cases h
  | some j =>
    rw [e] at h
    exact r.get h
theorem atI_map {α β : Type} (f : α → β) (xs : List α) (i : Int) {v : α} (h : atI xs i = some v) : atI (xs.map f) i = some (f v) := by
  unfold atI at h ⊢
  rw [List.length_map]
  cases e : ixN xs.length i with
  | none => rw [e] at h; cases h
  | some j =>
    rw [e] at h
    have h' : xs[j]? = some v := h
    show (xs.map f)[j]? = _
    rw [List.getElem?_map, h']; rfl
theorem intsL_rv {K : PySem.W.Frag} {CA : Nat → Option Addr} {H : Hp} {P : Addr → Prop} : ∀ {vs : List Val} {ks : List Int} {xs : List V}, intsL vs = some ks → RVs K CA H P vs xs → xs = ks.map V.int
  | [], _, _, e, .nil => by cases e; rfl
  | .int i :: vs, ns, _, e, .cons r t => by
    simp only [intsL] at e
    cases h : intsL vs with
    | none => rw [h] at e; cases e
    | some ms =>
      rw [h] at e
      cases e
      cases r
      rw [intsL_rv h t]; rfl
  | .non :: _, _, _, e, _ => by cases e
  | .str _ :: _, _, _, e, _ => by cases e
  | .bl _ :: _, _, _, e, _ => by cases e
  | .tup _ :: _, _, _, e, _ => by cases e
  | .lst _ :: _, _, _, e, _ => by cases e
  | .exc _ :: _, _, _, e, _ => by cases e
  | .scr _ :: _, _, _, e, _ => by cases e
  | .hid :: _, _, _, e, _ => by cases e
  | .fn _ :: _, _, _, e, _ => by cases e
  | .dct _ :: _, _, _, e, _ => by cases e
  | .dk _ _ :: _, _, _, e, _ => by cases e
theorem dfind_dvl : ∀ (ds : DL) (k : List Int), dfind (dvl ds) k = dfnd ds k
  | [], _ => rfl
  | d :: ds, k => by
    have ih := dfind_dvl ds k
    unfold dfind dfnd dvl at ih ⊢
    rw [List.map_cons, List.find?_cons, List.find?_cons]
    by_cases h : d.1 = k
    · simp [h]
    · simp only [h, decide_false, Bool.false_eq_true]
      exact ih
theorem dhas_dvl : ∀ (ds : DL) (k : List Int), dhas (dvl ds) k = (dfnd ds k).isSome
  | [], _ => rfl
  | d :: ds, k => by
    have ih := dhas_dvl ds k
    unfold dhas dfnd dvl at ih ⊢
    rw [List.map_cons, List.any_cons, List.find?_cons]
    by_cases h : d.1 = k
    · simp [h]
    · simp only [h, decide_false, Bool.false_or]
      exact ih
theorem sub_dict {prog : Program} {w : World} {A : Around} {E : Value → Shared → Prop} {s : Shared} {value slice : Expr} {o i : Value} {Q : Value → Shared → Prop} (hT : s.TypeIs o "dict") (hs : subscripted slice false o i = operate [o, i] (getItem o i))
    (h : wpAny (model prog w) A (getItem o i) Q E s) : wpAny (model prog w) A (subscriptTail value slice o i) Q E s := by
  unfold subscriptTail
  refine wpAny_bind ?_
  rw [getitemInPython_of_ne hT.not_modules]
  refine wpAny_bind (wpAny_specialOf hT PySem.F.slot_dict_getitem.lookup ?_)
  have fin : wpAny (model prog w) A (subscripted slice false o i) (fun r s₃ => wpAny (model prog w) A (letTemporaryGo value o r >>= fun _ => pure r) Q E s₃) E s := by
    rw [hs]
    exact wpAny_operating (wpAny_mono h (fun r s₃ h₃ => wpAny_bind (wpAny_letTemporaryGo (wpAny_pure h₃))) fun _ _ x => x)
  first
    | exact wpAny_pure (wpAny_bind fin)
    | exact wpAny_bind (wpAny_pure (wpAny_bind fin))
    | exact wpAny_bind fin
theorem keqV_kG {j k : Key} : keqV (kG j) (kG k) = decide (j = k) := by
  cases j <;> cases k <;> simp [keqV, kG]
theorem dkF_val {K : PySem.W.Frag} {CA : Nat → Option Addr} {H : Hp} {P : Addr → Prop} {k : Key} : ∀ {kvs : List (Key × V)} {vs : List Val}, RVs K CA H P vs (kvs.map (·.2)) →
    match dkF (kvs.map fun kv => kG kv.1) vs (kG k) with
    | some v => ∃ x, valV kvs k = some x ∧ RV K CA H P v x
    | none => valV kvs k = none
  | [], vs, r => by
    cases r; rfl
  | kv :: kvs, vs, r => by
    rw [List.map_cons] at r
    cases r with
    | @cons v x vs xs r t =>
      have ih := dkF_val (k := k) t
      rw [List.map_cons]
      unfold dkF
      rw [keqV_kG]
      by_cases h : kv.1 = k
      · rw [decide_eq_true h, if_pos rfl, valV_pos h]
        exact ⟨_, rfl, r⟩
      · rw [decide_eq_false h, if_neg (by decide), valV_neg h]
        exact ih
theorem kG_rel {k : Key} {v : Val} {x : V} {K : PySem.W.Frag} {CA : Nat → Option Addr} {H : Hp} {P L : Addr → Prop} (h : isK v = true) (r : RVo K CA H P L v x) : ∃ k : Key, v = kG k ∧ x = kV k := by
  cases v <;> first | (cases h; done) | skip
  · cases r.int; exact ⟨.inl _, rfl, rfl⟩
  · cases r.str; exact ⟨.inr _, rfl, rfl⟩
theorem ix_any (hu : X.A.units + 64 < cLine) : IxR X (rOp X.K CA (fun _ => false) evIx) := by
  intro value slice pins s σ H x y v u Q I rx ry h hs
  obtain ⟨va, vb, P, L, M, t, ra, rb, h⟩ := h
  cases va <;> cases vb <;> first | exact h.elim | skip
  case dct.tup kvs vs =>
    obtain ⟨a, ds, rfl, sa, rfl, dk⟩ := ra.dct
    obtain ⟨b, xs, rfl, sb, qb⟩ := rb.tup
    cases rx
    cases ry
    cases e : intsL vs with
    | none => simp only [evIx, e, ofO, Option.bind_none] at h
    | some k =>
      cases e2 : dfind (dvl ds) k with
      | none => simp only [evIx, e, e2, ofO, Option.bind_some, Option.map_none] at h
      | some fv =>
        simp only [evIx, e, e2, ofO, Option.bind_some, Option.map_some] at h
        have ex := intsL_rv e qb
        subst ex
        rw [dfind_dvl] at e2
        obtain ⟨_, _, _, _, dd⟩ := dict_of I sa dk
        refine sub_dict dd.typeIs hs (dd_get (by omega) I sa dk sb e2 fun w' s' I' rw' => ⟨fv.v, H, I', rw', h.here t ?_⟩)
        cases fv
        · exact .non
        · exact .bl _
        · exact .int _
  case dk.int ks vs i =>
    obtain ⟨a, kvs, rfl, sa, rfl, nl, qv⟩ := ra.dk
    cases rb.int
    cases rx
    have e := dkF_val (k := .inl i) qv
    cases e2 : dkF (kvs.map fun kv => kG kv.1) vs (.int i) with
    | none => simp only [evIx, e2, ofO] at h
    | some w =>
      have e : match dkF (kvs.map fun kv => kG kv.1) vs (.int i) with | some v => ∃ x, valV kvs (.inl i) = some x ∧ RV X.K CA H P v x | none => valV kvs (.inl i) = none := e
      rw [e2] at e
      obtain ⟨x, e3, rx⟩ := e
      simp only [evIx, e2, ofO] at h
      obtain ⟨_, _, _, _, dd⟩ := dk_rd I.hok (.inl sa)
      exact sub_dict dd.typeIs hs (d_getItem (by omega) I (.inl ⟨kvs, .inl i, .inl sa, rfl, e3.symm⟩) ry fun w' s' I' rw' => ⟨x, H, I', rw', h.here t rx⟩)
  case dk.str ks vs i =>
    obtain ⟨a, kvs, rfl, sa, rfl, nl, qv⟩ := ra.dk
    cases rb.str
    cases rx
    have e := dkF_val (k := .inr i) qv
    cases e2 : dkF (kvs.map fun kv => kG kv.1) vs (.str i) with
    | none => simp only [evIx, e2, ofO] at h
    | some w =>
      have e : match dkF (kvs.map fun kv => kG kv.1) vs (.str i) with | some v => ∃ x, valV kvs (.inr i) = some x ∧ RV X.K CA H P v x | none => valV kvs (.inr i) = none := e
      rw [e2] at e
      obtain ⟨x, e3, rx⟩ := e
      simp only [evIx, e2, ofO] at h
      obtain ⟨_, _, _, _, dd⟩ := dk_rd I.hok (.inl sa)
      exact sub_dict dd.typeIs hs (d_getItem (by omega) I (.inl ⟨kvs, .inr i, .inl sa, rfl, e3.symm⟩) ry fun w' s' I' rw' => ⟨x, H, I', rw', h.here t rx⟩)
  all_goals cases rb.int
  case tup.int vs i =>
    obtain ⟨a, xs, rfl, sa, qa⟩ := ra.tup
    cases e : atI vs i with
    | none => simp only [evIx, e, ofO] at h
    | some w =>
      obtain ⟨z, hz, rz⟩ := atI_rv qa e
      simp only [evIx, e, ofO] at h
      exact ix_tup value slice pins s σ H _ _ v u Q I rx ry ⟨a, xs, i, z, rfl, rfl, sa, hz, h.here t rz⟩ hs
  case lst.int vs i =>
    obtain ⟨a, xs, rfl, sa, qa⟩ := ra.lst
    cases e : atI vs i with
    | none => simp only [evIx, e, ofO] at h
    | some w =>
      obtain ⟨z, hz, rz⟩ := atI_rv qa e
      simp only [evIx, e, ofO] at h
      exact ix_list value slice pins s σ H _ _ v u Q I rx ry ⟨a, xs, i, z, rfl, rfl, SqL.of sa, hz, h.here t rz⟩ hs
  case str.int z i =>
    cases ra.str
    cases hl : lenOk z.length with
    | false => simp only [evIx, hl] at h; exact h.elim
    | true =>
      cases e : atI z.cps.toList i with
      | none => simp only [evIx, hl, e, ofO, Option.map_none, if_true] at h
      | some c =>
        simp only [evIx, hl, e, ofO, Option.map_some, if_true] at h
        exact ix_str value slice pins s σ H _ _ v u Q I rx ry ⟨z, i, c, rfl, rfl, LIM_le hl, e, h.str t⟩ hs
  case scr.int ns i =>
    obtain ⟨a, rfl, sa⟩ := ra.scr
    cases e : atI ns i with
    | none => simp only [evIx, e, ofO, Option.map_none] at h
    | some w =>
      simp only [evIx, e, ofO, Option.map_some] at h
      exact ix_list value slice pins s σ H _ _ v u Q I rx ry ⟨a, _, i, _, rfl, rfl, sa.l, atI_map _ _ _ e, h.int t⟩ hs
theorem flat_rv {K : PySem.W.Frag} {H : Hp} {P : Addr → Prop} {v : Val} {x : V} (f : flat v = true) (r : RV K CA H P v x) : x = toV v ∧ flatV x = true := by
  cases v <;> first | (cases f; done) | (cases r; exact ⟨rfl, rfl⟩)
theorem flats_rv {K : PySem.W.Frag} {H : Hp} {P : Addr → Prop} : ∀ {vs : List Val} {xs : List V}, vs.all flat = true → RVs K CA H P vs xs → xs = vs.map toV ∧ xs.all flatV = true
  | _, _, _, .nil => ⟨rfl, rfl⟩
  | v :: vs, _, f, .cons r t => by
    rw [List.all_cons, Bool.and_eq_true] at f
    obtain ⟨e1, e2⟩ := flat_rv f.1 r
    obtain ⟨e3, e4⟩ := flats_rv f.2 t
    exact ⟨by rw [List.map_cons, ← e1, ← e3], by rw [List.all_cons, e2, e4]; rfl⟩
def inOf : Bool → CmpOp
  | false => .In
  | true => .NotIn
theorem op_inn (hu : X.A.units + 64 < cLine) (n : Bool) : OpR X (compareOp (inOf n)) (rOp X.K CA (fun _ => false) (evIn n)) := by
  intro pins s σ H x y v u Q I rx ry h
  obtain ⟨va, vb, P, L, M, t, ra, rb, h⟩ := h
  have fin : ∀ (p : Addr) (xs : List V) (vs : List Val), y = .ref p → (SqL X.K H p xs ∨ SqT X.K H p xs) → RVs X.K CA H P vs xs → (flat va && vs.all flat) = true →
      Out X.K CA H P (.bl (if n then !inV (toV va) (vs.map toV) else inV (toV va) (vs.map toV)), false) Q → wpAny (model X.prog X.w) X.A (compareOp (inOf n) v u) (EP X pins σ Q) X.xe s := by
    intro p xs vs ey hs r f o
    rw [Bool.and_eq_true] at f
    obtain ⟨e1, e2⟩ := flat_rv f.1 ra.rv
    obtain ⟨e3, e4⟩ := flats_rv f.2 r
    rw [← e1, ← e3] at o
    cases n
    · exact op_in_seq pins s σ H x y v u Q I rx ry ⟨p, xs, ey, hs, e2, e4, o.bl t⟩
    · exact op_notIn_seq pins s σ H x y v u Q I rx ry ⟨p, xs, ey, hs, e2, e4, o.bl t⟩
  cases vb <;> first | exact h.elim | skip
  case dct kvs =>
    obtain ⟨a, ds, rfl, sa, rfl, dk⟩ := rb.dct
    cases va <;> first | exact h.elim | skip
    rename_i vs
    obtain ⟨b, xs, rfl, sb, qb⟩ := ra.tup
    cases rx
    cases ry
    cases e : intsL vs with
    | none => simp only [evIn, keyOf, e] at h
    | some k =>
      simp only [evIn, keyOf, e] at h
      have ex := intsL_rv e qb
      subst ex
      rw [dhas_dvl] at h
      have o := h.bl t
      cases n
      · exact dd_in (by omega) I sa dk sb fun s' I' => ⟨.bl _, H, I', rfl, o⟩
      · exact dd_notIn (by omega) I sa dk sb fun s' I' => ⟨.bl _, H, I', rfl, o⟩
  case dk ks vs =>
    obtain ⟨a, kvs, rfl, sa, rfl, nl, qv⟩ := rb.dk
    cases ek : isK va with
    | false => simp only [evIn, ek] at h; exact h.elim
    | true =>
      simp only [evIn, ek, if_true] at h
      obtain ⟨k, rfl, rfl⟩ := kG_rel (k := .inl 0) ek ra
      cases ry
      have e := dkF_val (k := k) qv
      have es : (dkF (kvs.map fun kv => kG kv.1) vs (kG k)).isSome = (valV kvs k).isSome := by
        cases e2 : dkF (kvs.map fun kv => kG kv.1) vs (kG k) with
        | none => rw [e2] at e; rw [e]; rfl
        | some w =>
          rw [e2] at e
          obtain ⟨x, e3, _⟩ := e
          rw [e3]; rfl
      rw [es] at h
      have o := h.bl t
      have g : DGet H a (kV k) (valV kvs k) := DGet.k sa
      cases n
      · exact d_in (by omega) I g rx fun s' I' => ⟨.bl _, H, I', rfl, o⟩
      · exact d_notIn (by omega) I g rx fun s' I' => ⟨.bl _, H, I', rfl, o⟩
  case tup vs =>
    obtain ⟨b, xs, rfl, sb, qb⟩ := rb.tup
    cases e : (flat va && vs.all flat) with
    | false => simp only [evIn, e] at h; exact h.elim
    | true =>
      simp only [evIn, e, if_true] at h
      exact fin b xs vs rfl (.inr sb) qb e h
  case lst vs =>
    cases e : (flat va && vs.all flat) with
    | false =>
      cases e2 : (okD va && okD (.lst vs) && Nat.ble (dat va).depth 32) with
      | false => simp only [evIn, e, e2] at h; exact h.elim
      | true =>
        have h : Out X.K CA H P (.bl (if n then !((dats vs).any fun z => PyData.eqv z (dat va)) else (dats vs).any fun z => PyData.eqv z (dat va)), false) Q := by
          simp only [evIn, e, e2, if_true] at h; exact h
        have o := h.bl t
        rw [Bool.and_eq_true, Bool.and_eq_true] at e2
        obtain ⟨⟨k1, k2⟩, k3⟩ := e2
        unfold okD at k1 k2
        rw [Bool.and_eq_true] at k1 k2
        have d1 := RV.dp va k1.1 ra.rv
        have d2 : Dp X.K H y (.list (dats vs)) := RV.dp (.lst vs) k2.1 rb.rv
        have s2 : SeqAt.shaped (.list (dats vs)) = true := k2.2
        have k3 : (dat va).depth ≤ 32 := Nat.le_of_ble_eq_true k3
        obtain ⟨as, r1⟩ := Dp.reads I (dat va) x v d1 rx
        obtain ⟨bs, r2⟩ := Dp.reads I (.list (dats vs)) y u d2 ry
        have hroom : X.A.units + 1 + min (PyData.depthAll (dats vs)) (dat va).depth < cLine := by
          have := Nat.min_le_right (PyData.depthAll (dats vs)) (dat va).depth
          omega
        cases n
        · exact SeqAt.in_list_reads r2 r1 (SeqAt.canLay_of_shaped s2) (SeqAt.canLay_of_shaped k1.2) hroom ⟨.bl _, H, I, rfl, o⟩
        · exact SeqAt.notIn_list_reads r2 r1 (SeqAt.canLay_of_shaped s2) (SeqAt.canLay_of_shaped k1.2) hroom ⟨.bl _, H, I, rfl, o⟩
    | true =>
      obtain ⟨b, xs, rfl, sb, qb⟩ := rb.lst
      simp only [evIn, e, if_true] at h
      exact fin b xs vs rfl (.inl (SqL.of sb)) qb e h
  case str z =>
    cases va <;> first | exact h.elim | skip
    rename_i w
    cases ra.str
    cases rb.str
    cases ec : w.cps.toList with
    | nil => simp only [evIn, ec] at h
    | cons c r =>
      cases r with
      | cons c2 r2 => simp only [evIn, ec] at h
      | nil =>
        simp only [evIn, ec] at h
        have ew : w = ⟨#[c]⟩ := by
          have : w.cps = #[c] := by
            apply Array.toList_inj.mp
            rw [ec]
          cases w
          cases this
          rfl
        subst ew
        cases n
        · exact op_in_sign pins s σ H _ _ v u Q I rx ry ⟨c, z, rfl, rfl, h.bl t⟩
        · exact op_notIn_sign pins s σ H _ _ v u Q I rx ry ⟨c, z, rfl, rfl, h.bl t⟩
def rSlc (K : PySem.W.Frag) (CA : Nat → Option Addr) : V → Option Int → Option Int → Hp → VK → Prop := fun x lo hi H Q => ∃ (va : Val) (P L : Addr → Prop), Trk P H ∧ RVo K CA H P L va x ∧
  match evSlc lo hi va with
  | .ok v => Out K CA H P (v, isLst v) Q
  | _ => False
theorem ints_rvs {K : PySem.W.Frag} {H : Hp} {P : Addr → Prop} : ∀ ns : List Int, RVs K CA H P (ns.map Val.int) (ns.map V.int)
  | [] => .nil
  | n :: ns => .cons (.int n) (ints_rvs ns)
theorem sl_any : SlR X (rSlc X.K CA) := by
  intro pins s σ H x v vl vu lo hi sl Q I rx hs pl pu h
  obtain ⟨va, P, L, t, ra, h⟩ := h
  cases va <;> first | exact h.elim | skip
  case tup vs =>
    obtain ⟨a, xs, rfl, sa, qa⟩ := ra.tup
    have h : Out X.K CA H P (.tup (cut vs lo hi), false) Q := h
    refine sl_tupA pins s σ H _ v vl vu lo hi sl Q I rx hs pl pu ⟨a, xs, rfl, sa, fun hw => ?_, fun hw => h.newT t (qa.cut lo hi)⟩
    have e : cut vs lo hi = vs := by
      unfold cut
      rw [qa.length, hw.1, hw.2, List.drop_zero, Nat.sub_zero, ← qa.length, List.take_length]
    rw [e] at h
    exact h.here t (.tup sa qa)
  case lst vs =>
    obtain ⟨a, xs, rfl, sa, qa⟩ := ra.lst
    have h : Out X.K CA H P (.lst (cut vs lo hi), true) Q := h
    exact sl_list pins s σ H _ v vl vu lo hi sl Q I rx hs pl pu ⟨a, xs, rfl, SqL.of sa, h.newL t (qa.cut lo hi)⟩
  case scr ns =>
    obtain ⟨a, rfl, sa⟩ := ra.scr
    have h : Out X.K CA H P (.lst (cut (ns.map Val.int) lo hi), true) Q := h
    have qa : RVs X.K CA H P (ns.map Val.int) (ns.map V.int) := ints_rvs ns
    exact sl_list pins s σ H _ v vl vu lo hi sl Q I rx hs pl pu ⟨a, _, rfl, sa.l, h.newL t (qa.cut lo hi)⟩
  case str z =>
    cases ra.str
    cases hl : lenOk z.length with
    | false => simp only [evSlc, hl] at h; exact h.elim
    | true =>
      simp only [evSlc, hl, if_true] at h
      have h : Out X.K CA H P (.str (cutS z lo hi), false) Q := h
      exact sl_str pins s σ H _ v vl vu lo hi sl Q I rx hs pl pu ⟨z, rfl, LIM_le hl, h.str t⟩
end
section
variable {prog : Program} {w : World} {A : Around} {E : Value → Shared → Prop} {s : Shared}
theorem adjust_rev (n : Nat) : Builtin.Slice.sliceAdjust none none (-1) (n : Int) = ((n : Int) - 1, -1) := by
  unfold Builtin.Slice.sliceAdjust
  simp
theorem places_rev (n : Nat) : Builtin.Slice.slicePlaces ((n : Int) - 1) (-1) (-1) = n := by
  unfold Builtin.Slice.slicePlaces
  cases n with
  | zero => simp
  | succ k => simp <;> omega
theorem fm_map {α β : Type} {f : α → Option β} {g : α → β} : ∀ (l : List α), (∀ m ∈ l, f m = some (g m)) → l.filterMap f = l.map g
  | [], _ => rfl
  | a :: l, h => by
    rw [List.filterMap_cons, h a List.mem_cons_self, List.map_cons, fm_map l fun m hm => h m (List.mem_cons_of_mem _ hm)]
theorem pick_rev (xs : Array Value) : ((List.range xs.size).filterMap fun (m : Nat) => xs[(((xs.size : Int) - 1) + (m : Int) * (-1)).toNat]?).toArray = xs.toList.reverse.toArray := by
  congr 1
  have e : ∀ m ∈ List.range xs.size, xs[(((xs.size : Int) - 1) + (m : Int) * (-1)).toNat]? = some (xs.toList.reverse.getD m .none) := by
    intro m hm
    have hm : m < xs.size := List.mem_range.mp hm
    have e1 : (((xs.size : Int) - 1) + (m : Int) * (-1)).toNat = xs.size - 1 - m := by omega
    have h2 : m < xs.toList.reverse.length := by simpa using hm
    rw [e1, List.getD_eq_getElem?_getD, List.getElem?_eq_getElem h2, List.getElem_reverse]
    rw [Array.getElem?_eq_getElem (by omega)]
    simp
  rw [fm_map _ e]
  refine List.ext_getElem? fun i => ?_
  by_cases hi : i < xs.size
  · have h2 : i < xs.toList.reverse.length := by simpa using hi
    rw [List.getElem?_map, List.getElem?_range hi, List.getElem?_eq_getElem h2]
    show some (xs.toList.reverse.getD i .none) = _
    rw [List.getD_eq_getElem?_getD, List.getElem?_eq_getElem h2]
    rfl
  · rw [List.getElem?_eq_none (by simpa using hi), List.getElem?_eq_none (by simpa using hi)]
theorem getItem_tuple_rev {t sl : Addr} {items : Array Value} {vl vu vs : Value} {Q : Value → Shared → Prop} (ht : IsTup s.heap t items) (hs : s.heap.IsSliceOf sl vl vu vs) (pl : IsPart vl none) (pu : IsPart vu none) (ps : IsPart vs (some (-1)))
    (h : Q (.ref s.heap.objs.size) { s with heap := s.heap.push { cls := .type "tuple", data := .seq items.toList.reverse.toArray } })
    (hsz : items.size ≤ sizeLine) : wpAny (model prog w) A (getItem (.ref t) (.ref sl)) Q E s := by
  have htake : sizeOk (.seq items.toList.reverse.toArray) := by
    show items.toList.reverse.toArray.size ≤ sizeLine
    rw [List.size_toArray, List.length_reverse, Array.length_toList]
    exact hsz
  obtain ⟨os, hos, hcs, hds⟩ := id hs
  have hTs : s.TypeIs (.ref sl) "slice" := ⟨os, hos, hcs⟩
  unfold getItem
  try with_reducible refine wpAny_holding ?_
  first | refine wpAny_bind (wpAny_pure ?_) | skip
  refine wpAny_bind (wpAny_sequenceKey ht.typeIs (by decide) ?_)
  refine wpAny_bind (wpAny_callSpecial?_slot (name := Str.ofString "__getitem__") ht.typeIs PyProof.Rows.slot_tuple_getitem
    (wpAny_call_entry PyProof.Rows.slot_tuple_getitem ht.typeIs entry_tuple_getitem ?_ (args_tuple_getitem _ _)))
  show wpAny _ _ (Builtin.Tuple.tupleItemsOf (.ref t) >>= _) _ _ s
  refine wpAny_bind (tupleItemsOf_ ht ?_)
  refine wpAny_bind (wpAny_typeOf hTs ?_)
  rw [if_pos (by decide)]
  have ha : ∀ {Q : Int × Int × Nat → Shared → Prop} {E : Value → Shared → Prop}, Q ((items.size : Int) - 1, -1, items.size) s → wpAny (model prog w) A.in1 (Builtin.Slice.sliceApplied (.ref sl) (pure (items.size : Int))) Q E s := by
    intro Q E h
    unfold Builtin.Slice.sliceApplied Builtin.Slice.sliceFields
    refine wpAny_bind (wpAny_bind (wpAny_field hos hds (x := vl) rfl (wpAny_bind (wpAny_field hos hds (x := vu) rfl (wpAny_bind (wpAny_field hos hds (x := vs) rfl (wpAny_pure ?_)))))))
    refine wpAny_bind (slicePart_ ps ?_)
    show wpAny _ _ (if ((-1 : Int) == 0) = true then _ else _) _ _ s
    rw [if_neg (by decide)]
    refine wpAny_bind (slicePart_ pl (wpAny_bind (slicePart_ pu (wpAny_bind (wpAny_pure ?_)))))
    show wpAny _ _ (match Builtin.Slice.sliceAdjust none none (-1) (items.size : Int) with | (lo, hi) => pure (lo, (-1 : Int), Builtin.Slice.slicePlaces lo hi (-1))) _ _ s
    rw [adjust_rev]
    show wpAny _ _ (pure ((items.size : Int) - 1, (-1 : Int), Builtin.Slice.slicePlaces ((items.size : Int) - 1) (-1) (-1))) _ _ s
    rw [places_rev]
    exact wpAny_pure h
  refine wpAny_bind (ha ?_)
  have hno : ¬ ((((items.size : Int) - 1) == 0 && (-1 : Int) == 1 && items.size == items.size) = true) := by
    intro q
    rw [Bool.and_eq_true, Bool.and_eq_true] at q
    exact absurd q.1.2 (by decide)
  show wpAny _ _ (if (((items.size : Int) - 1) == 0 && (-1 : Int) == 1 && items.size == items.size) = true then _ else _) _ _ s
  rw [if_neg hno, pick_rev]
  first
    | exact wpAny_bind (m := Builtin.Tuple.tupleExact _) (wpAny_newObj_type (wpAny_pure ⟨_, rfl, wpAny_pure h⟩) htake)
    | exact wpAny_bind (m := Builtin.Tuple.tupleExact _) (wpAny_newObj_type (wpAny_bind (wpAny_pure (wpAny_pure ⟨_, rfl, wpAny_pure h⟩))) htake)
end
section
variable {X : Cx} {CA : Nat → Option Addr}
def tRevA (K : PySem.W.Frag) (CA : Nat → Option Addr) (te : TE) : TE := fun σ H Q => te σ H fun x H1 => ∃ (va : Val) (P L : Addr → Prop), Trk P H1 ∧ RVo K CA H1 P L va x ∧
  match evRev va with
  | .ok v => Out K CA H1 P (v, isLst v) Q
  | _ => False
theorem pe_revA {e : Expr} {te : TE} {k : Nat} {p1 p2 p3 pos : Pos} (he : PE X e te) : PE X (.Subscript e (.Slice none none (some (.UnaryOp .USub (.Constant (.int 1) k p1) p2)) p3) pos) (tRevA X.K CA te) := by
  refine ⟨fun pins s σ H Q I h => ?_⟩
  refine Subscript_ (thn (he.run pins s σ H _ I h) fun v s1 ⟨x, H1, I1, r1, q1⟩ => ?_)
  obtain ⟨va, P, L, t, ra, q⟩ := q1
  have hst : PO X (some (.UnaryOp .USub (.Constant (.int 1) k p1) p2)) (tPart (tUn (rU fun i => .int (-i)) (tC (.int 1)))) := po_some (pe_un un_neg pe_int)
  refine wpAny_Slice (thn (po_none.run pins s1 σ H1 (fun o H2 => o = none ∧ H2 = H1) I1 ⟨rfl, rfl⟩) fun vl s2 ⟨l, H2, I2, pl, el, e2⟩ => ?_)
  subst el e2
  refine thn (po_none.run pins s2 σ H2 (fun o H3 => o = none ∧ H3 = H2) I2 ⟨rfl, rfl⟩) fun vu s3 ⟨u, H3, I3, pu, eu, e3⟩ => ?_
  subst eu e3
  refine thn (hst.run pins s3 σ H3 (fun o H4 => o = some (-1) ∧ H4 = H3) I3 ⟨1, rfl, -1, rfl, rfl, rfl⟩) fun vs s4 ⟨o, H4, I4, ps, eo, e4⟩ => ?_
  subst eo e4
  have I5 : Inv X pins σ H4 { s4 with heap := s4.heap.push { cls := .type "slice", data := .fields #[vl, vu, vs] } } := I4.kept (t' := s4.toks) fun b ob q => Heap.get?_push_of_some _ q
  cases va <;> first | exact q.elim | skip
  case tup ws =>
    obtain ⟨a, xs, rfl, hx, qx⟩ := ra.tup
    cases r1
    obtain ⟨its, r, ht, hz⟩ := I5.tuple hx
    have hlen := r.length
    show wpAny (model X.prog X.w) X.A (subscriptTail e (.Slice none none (some (.UnaryOp .USub (.Constant (.int 1) k p1) p2)) p3) (.ref a) (.ref s4.heap.objs.size)) (EP X pins σ Q) X.xe { s4 with heap := s4.heap.push { cls := .type "slice", data := .fields #[vl, vu, vs] } }
    refine tail_any (ops := [.ref a, .ref s4.heap.objs.size]) ht.typeIs (PyProof.Rows.slot_tuple_getitem.lookup) ?_ (by with_unfolding_all rfl)
    refine getItem_tuple_rev ht (Heap.IsSliceOf.new _ vl vu vs) pl pu ps ?_ (by rw [List.size_toArray]; omega)
    have q : Out X.K CA H4 P (.tup ws.reverse, false) Q := q
    refine ⟨.ref _, _, I5.laid (t' := s4.toks) (o := .tup xs.reverse) (fun b ob q => Heap.get?_push_of_some _ q) (Nat.le_refl _) ?_, rfl, q.newT t qx.reverse _ (I5.hok.fresh (Nat.le_refl _))⟩
    exact ⟨by rw [List.length_reverse]; exact hz, _, r.reverse, ⟨_, Heap.get?_push_size _ rfl, rfl, 0, rfl⟩⟩
  case lst ws =>
    obtain ⟨a, xs, rfl, hx, qx⟩ := ra.lst
    cases r1
    obtain ⟨its, r, ht, hz⟩ := I5.list (SqL.of hx)
    have hlen := r.length
    show wpAny (model X.prog X.w) X.A (subscriptTail e (.Slice none none (some (.UnaryOp .USub (.Constant (.int 1) k p1) p2)) p3) (.ref a) (.ref s4.heap.objs.size)) (EP X pins σ Q) X.xe { s4 with heap := s4.heap.push { cls := .type "slice", data := .fields #[vl, vu, vs] } }
    refine tail_any (ops := [.ref a, .ref s4.heap.objs.size]) ht.isList.typeIs (PySem.slot_list_getitem.lookup) ?_ (by with_unfolding_all rfl)
    refine wpAny_getItem_list_slice ht.isList (Heap.IsSliceOf.new _ vl vu vs) pl pu ps (by decide) ?_ (by rw [List.size_toArray]; omega)
    rw [PySem.W.krv_pick]
    have q : Out X.K CA H4 P (.lst ws.reverse, true) Q := q
    refine ⟨.ref _, _, I5.laid (t' := s4.toks) (o := .lst xs.reverse) (fun b ob q => Heap.get?_push_of_some _ q) (Nat.le_refl _) ?_, rfl, q.newL t qx.reverse _ (I5.hok.fresh (Nat.le_refl _))⟩
    exact ⟨by rw [List.length_reverse]; exact hz, _, 0, r.reverse, Heap.get?_push_size _ rfl⟩
theorem tru_any {K : PySem.W.Frag} {H : Hp} {P L : Addr → Prop} {v : Val} {x : V} {b : Bool} (r : RVo K CA H P L v x) (h : truth v = .ok b) : TruV K x H b := by
  cases v <;> first | (cases h; done) | skip
  case non => cases r.non; cases h; rfl
  case bl k => cases r.bl; cases h; rfl
  case int i => cases r.int; cases h; rfl
  case tup vs =>
    obtain ⟨a, xs, rfl, s, t⟩ := r.tup
    cases h
    refine .inr (.inl ⟨xs, s, ?_⟩)
    cases t <;> rfl
  case lst vs =>
    obtain ⟨a, xs, rfl, s, t⟩ := r.lst
    cases h
    refine .inl ⟨xs, SqL.of s, ?_⟩
    cases t <;> rfl
  case scr ns =>
    obtain ⟨a, rfl, s⟩ := r.scr
    cases h
    refine .inl ⟨_, s.l, ?_⟩
    cases ns <;> rfl
end
end G

set_option linter.all false
set_option maxHeartbeats 2000000
set_option maxRecDepth 100000
namespace G
open PySem PySem.Spec PyProof.Rows HT
open L2 hiding Takes XE CX takes_of passes_call ps_raise PMk MkP mk_of pmk_own passAt ps_try_as ps_try_many HdsOk
open L2N (Takes XE CX takes_of passes_call ps_raise PMk MkP mk_of pmk_own passAt)
abbrev RVos (K : PySem.W.Frag) (CA : Nat → Option Addr) (H : Hp) (P L : Addr → Prop) : List Val → List V → Prop := Paired (RVo K CA H P L)
def rBf (K : PySem.W.Frag) (CA : Nat → Option Addr) (f : Bf) : List V → Hp → VK → Prop := fun xs H Q => ∃ (vs : List Val) (P L : Addr → Prop), Trk P H ∧ RVos K CA H P L vs xs ∧
  match evBf f vs with
  | .ok v => Out K CA H P (v, isLst v) Q
  | _ => False
def bfN : Bf → Str
  | .len => "len"
  | .abs => "abs"
  | .max2 => "max"
  | .min2 => "min"
  | .int => "int"
  | .list => "list"
  | .tuple => "tuple"
  | .maxL => "max"
  | .minL => "min"
  | .cnt => "len"
  | .idx => "len"
  | .str => "str"
  | .all => "all"
  | .srt => "sorted"
def bfV : Bf → Value
  | .len => .builtin "len"
  | .abs => .builtin "abs"
  | .max2 => .builtin "max"
  | .min2 => .builtin "min"
  | .int => .type "int"
  | .list => .type "list"
  | .tuple => .type "tuple"
  | .maxL => .builtin "max"
  | .minL => .builtin "min"
  | .cnt => .builtin "list.count"
  | .idx => .builtin "list.index"
  | .str => .type "str"
  | .all => .builtin "all"
  | .srt => .builtin "sorted"
def bfFn : Bf → Bool
  | .cnt => false
  | .idx => false
  | _ => true
theorem intsOf_rv {K : PySem.W.Frag} {CA : Nat → Option Addr} {H : Hp} {P : Addr → Prop} : ∀ {vs : List Val} {xs : List V} {ns : List Int}, intsOf vs = some ns → RVs K CA H P vs xs → xs = ns.map V.int
  | _, _, _, e, .nil => by cases e; rfl
  | .int i :: vs, _, ns, e, .cons r t => by
    simp only [intsOf] at e
    cases h : intsOf vs with
    | none => rw [h] at e; cases e
    | some ms =>
      rw [h] at e
      cases e
      cases r
      rw [intsOf_rv h t]; rfl
  | .non :: _, _, _, e, _ => by cases e
  | .bl _ :: _, _, _, e, _ => by cases e
  | .str _ :: _, _, _, e, _ => by cases e
  | .tup _ :: _, _, _, e, _ => by cases e
  | .lst _ :: _, _, _, e, _ => by cases e
  | .exc _ :: _, _, _, e, _ => by cases e
  | .scr _ :: _, _, _, e, _ => by cases e
  | .hid :: _, _, _, e, _ => by cases e
theorem boolsOf_rv {K : PySem.W.Frag} {CA : Nat → Option Addr} {H : Hp} {P : Addr → Prop} : ∀ {vs : List Val} {xs : List V} {bs : List Bool}, boolsOf vs = some bs → RVs K CA H P vs xs → xs = bs.map V.bl
  | _, _, _, e, .nil => by cases e; rfl
  | .bl i :: vs, _, ns, e, .cons r t => by
    simp only [boolsOf] at e
    cases h : boolsOf vs with
    | none => rw [h] at e; cases e
    | some ms =>
      rw [h] at e
      cases e
      cases r
      rw [boolsOf_rv h t]; rfl
  | .non :: _, _, _, e, _ => by cases e
  | .str _ :: _, _, _, e, _ => by cases e
  | .int _ :: _, _, _, e, _ => by cases e
  | .tup _ :: _, _, _, e, _ => by cases e
  | .lst _ :: _, _, _, e, _ => by cases e
  | .exc _ :: _, _, _, e, _ => by cases e
  | .scr _ :: _, _, _, e, _ => by cases e
  | .hid :: _, _, _, e, _ => by cases e
theorem srtI_eq {ms ns : List Int} (h : ms.Perm ns) (k : ms.Pairwise (· ≤ ·)) : ms = srtI ns := by
  refine List.Perm.eq_of_pairwise (le := (· ≤ ·)) (fun a b _ _ => Int.le_antisymm) k ?_ (h.trans (List.mergeSort_perm ns _).symm)
  refine (List.pairwise_mergeSort (fun a b c h1 h2 => ?_) (fun a b => ?_) ns).imp fun h => of_decide_eq_true h
  · exact decide_eq_true (Int.le_trans (of_decide_eq_true h1) (of_decide_eq_true h2))
  · rcases Int.le_total a b with h | h
    · rw [decide_eq_true h]; rfl
    · rw [decide_eq_true h, Bool.or_true]
theorem maxI_spec : ∀ (a : Int) (r : List Int), maxI (a :: r) ∈ (a :: r) ∧ ∀ y ∈ (a :: r), y ≤ maxI (a :: r)
  | a, [] => ⟨by simp [maxI], fun y h => by simp at h; simp [maxI, h]⟩
  | a, b :: r => by
    obtain ⟨h1, h2⟩ := maxI_spec b r
    show (if maxI (b :: r) > a then maxI (b :: r) else a) ∈ _ ∧ ∀ y ∈ _, y ≤ (if maxI (b :: r) > a then maxI (b :: r) else a)
    split
    · refine ⟨List.mem_cons_of_mem _ h1, fun y h => ?_⟩
      rcases List.mem_cons.mp h with rfl | h
      · omega
      · exact h2 y h
    · refine ⟨List.mem_cons_self, fun y h => ?_⟩
      rcases List.mem_cons.mp h with rfl | h
      · exact Int.le_refl _
      · have := h2 y h; omega
theorem minI_spec : ∀ (a : Int) (r : List Int), minI (a :: r) ∈ (a :: r) ∧ ∀ y ∈ (a :: r), minI (a :: r) ≤ y
  | a, [] => ⟨by simp [minI], fun y h => by simp at h; simp [minI, h]⟩
  | a, b :: r => by
    obtain ⟨h1, h2⟩ := minI_spec b r
    show (if minI (b :: r) < a then minI (b :: r) else a) ∈ _ ∧ ∀ y ∈ _, (if minI (b :: r) < a then minI (b :: r) else a) ≤ y
    split
    · refine ⟨List.mem_cons_of_mem _ h1, fun y h => ?_⟩
      rcases List.mem_cons.mp h with rfl | h
      · omega
      · exact h2 y h
    · refine ⟨List.mem_cons_self, fun y h => ?_⟩
      rcases List.mem_cons.mp h with rfl | h
      · exact Int.le_refl _
      · have := h2 y h; omega
section
variable {X : Cx} {CA : Nat → Option Addr}
theorem pair1 {α β : Type} {R : α → β → Prop} {a : α} {ys : List β} (h : Paired R [a] ys) : ∃ y, ys = [y] ∧ R a y := by
  cases h with
  | cons r t => cases t; exact ⟨_, rfl, r⟩
theorem pair2 {α β : Type} {R : α → β → Prop} {a b : α} {ys : List β} (h : Paired R [a, b] ys) : ∃ y z, ys = [y, z] ∧ R a y ∧ R b z := by
  cases h with
  | cons r t => cases t with
    | cons r2 t2 => cases t2; exact ⟨_, _, rfl, r, r2⟩
theorem call_b1 (hc : X.calm = true) (f : Bf) (va : Val) {pins : List (Addr × Obj)} {s : Shared} {σ : L2.St} {H : Hp} {us : List Value} {Q : VK} {x : V} {P L : Addr → Prop} (I : Inv X pins σ H s) (r : Vals [x] us) (t : Trk P H)
    (r1 : RVo X.K CA H P L va x) (h : match evB1 f va with | .ok v => Out X.K CA H P (v, isLst v) Q | _ => False) : wpAny (model X.prog X.w) X.A (call (bfV f) us) (EP X pins σ Q) X.xe s := by
  revert h
  cases f <;> cases va <;> first | exact fun h => h.elim | intro h
  case len.lst ws =>
    obtain ⟨a, ys, rfl, sa, qa⟩ := r1.lst
    refine call_len pins s σ H _ us Q I r ⟨_, ys.length, rfl, .inl ⟨ys, SqL.of sa, rfl⟩, ?_⟩
    have h : Out X.K CA H P (.int ws.length, false) Q := h
    rw [qa.length] at h
    exact h.int t
  case len.tup ws =>
    obtain ⟨a, ys, rfl, sa, qa⟩ := r1.tup
    refine call_len pins s σ H _ us Q I r ⟨_, ys.length, rfl, .inr ⟨ys, sa, rfl⟩, ?_⟩
    have h : Out X.K CA H P (.int ws.length, false) Q := h
    rw [qa.length] at h
    exact h.int t
  case len.scr ns =>
    obtain ⟨a, rfl, sa⟩ := r1.scr
    refine call_len pins s σ H _ us Q I r ⟨_, (ns.map V.int).length, rfl, .inl ⟨_, sa.l, rfl⟩, ?_⟩
    have h : Out X.K CA H P (.int ns.length, false) Q := h
    rw [List.length_map]
    exact h.int t
  case len.str z =>
    cases r1.str
    revert h
    cases hl : lenOk z.length with
    | false => simp only [evB1, hl]; exact fun h => h.elim
    | true =>
      simp only [evB1, hl, if_true]
      intro h
      have h : Out X.K CA H P (.int z.length, false) Q := h
      exact call_len_str pins s σ H _ us Q I r ⟨z, rfl, LIM_le hl, h.int t⟩
  case int.str z =>
    cases r1.str
    revert h
    cases hi : PySem.intText? z with
    | none => simp only [evB1, hi]; exact fun h => h.elim
    | some n =>
      by_cases hl : z.length ≤ 640
      · simp only [evB1, hi, hl, decide_true, if_true]
        intro h
        have h : Out X.K CA H P (.int n, false) Q := h
        exact call_int_str pins s σ H _ us Q I r ⟨z, n, rfl, hi, hl, h.int t⟩
      · simp only [evB1, hi, hl, decide_false]
        exact fun h => h.elim
  case str.int i =>
    cases r1.int
    revert h
    by_cases hl : i.natAbs.log2 < 1920
    · simp only [evB1, hl, decide_true, if_true]
      intro h
      have h : Out X.K CA H P (.str (Str.ofString (toString i)), false) Q := h
      exact call_str_int pins s σ H _ us Q I r ⟨i, rfl, hl, h.str t⟩
    · simp only [evB1, hl, decide_false]
      exact fun h => h.elim
  case abs.int i =>
    cases r1.int
    exact call_abs pins s σ H _ us Q I r ⟨_, rfl, h.int t⟩
  case int.int i =>
    cases r1.int
    exact call_int1 pins s σ H _ us Q I r (.inl ⟨_, rfl, h.int t⟩)
  case int.bl k =>
    cases r1.bl
    exact call_int1 pins s σ H _ us Q I r (.inr ⟨_, rfl, h.int t⟩)
  case list.lst ws =>
    obtain ⟨a, ys, rfl, sa, qa⟩ := r1.lst
    exact call_list_of pins s σ H _ us Q I r ⟨a, ys, rfl, .inl (SqL.of sa), h.newL t qa⟩
  case list.tup ws =>
    obtain ⟨a, ys, rfl, sa, qa⟩ := r1.tup
    exact call_list_of pins s σ H _ us Q I r ⟨a, ys, rfl, .inr sa, h.newL t qa⟩
  case list.scr ns =>
    obtain ⟨a, rfl, sa⟩ := r1.scr
    refine call_list_of pins s σ H _ us Q I r ⟨a, _, rfl, .inl sa.l, h.newL t ?_⟩
    clear sa h r1
    induction ns with
    | nil => exact .nil
    | cons n ns ih => exact .cons (.int n) ih
  case list.dk ks vs =>
    obtain ⟨a, kvs, rfl, sa, rfl, nl, qv⟩ := r1.dk
    have rk : ∀ l : List (Key × V), RVs X.K CA H P (l.map fun kv => kG kv.1) (l.map fun kv => kV kv.1) := fun l => by
      induction l with
      | nil => exact .nil
      | cons kv l ih =>
        rw [List.map_cons, List.map_cons]
        refine .cons ?_ ih
        cases kv.1 with
        | inl i => exact .int i
        | inr z => exact .str z
    exact call_list_dK hc pins s σ H _ us Q I r ⟨a, kvs, rfl, sa, h.newL t (rk kvs)⟩
  case tuple.lst ws =>
    obtain ⟨a, ys, rfl, sa, qa⟩ := r1.lst
    exact call_tuple_of pins s σ H _ us Q I r ⟨a, ys, rfl, .inl ⟨SqL.of sa, h.newT t qa⟩⟩
  case tuple.tup ws =>
    obtain ⟨a, ys, rfl, sa, qa⟩ := r1.tup
    exact call_tuple_of pins s σ H _ us Q I r ⟨a, ys, rfl, .inr ⟨sa, h.here t (.tup sa qa)⟩⟩
  case maxL.lst ws =>
    obtain ⟨a, ys, rfl, sa, qa⟩ := r1.lst
    cases e : intsOf ws with
    | none => simp only [evB1, e] at h
    | some ns =>
      cases ns with
      | nil => simp only [evB1, e] at h
      | cons n ns =>
        simp only [evB1, e] at h
        have ey := intsOf_rv e qa
        subst ey
        refine cr_max hc pins s σ H _ us Q I r ⟨a, n :: ns, rfl, SqL.of sa, Nat.succ_pos _, fun m h1 h2 => ?_⟩
        obtain ⟨g1, g2⟩ := maxI_spec n ns
        have em : m = maxI (n :: ns) := Int.le_antisymm (g2 m h1) (h2 _ g1)
        rw [em]
        exact Out.int h t
  case minL.lst ws =>
    obtain ⟨a, ys, rfl, sa, qa⟩ := r1.lst
    cases e : intsOf ws with
    | none => simp only [evB1, e] at h
    | some ns =>
      cases ns with
      | nil => simp only [evB1, e] at h
      | cons n ns =>
        simp only [evB1, e] at h
        have ey := intsOf_rv e qa
        subst ey
        refine cr_min hc pins s σ H _ us Q I r ⟨a, n :: ns, rfl, SqL.of sa, Nat.succ_pos _, fun m h1 h2 => ?_⟩
        obtain ⟨g1, g2⟩ := minI_spec n ns
        have em : m = minI (n :: ns) := Int.le_antisymm (h2 _ g1) (g2 m h1)
        rw [em]
        exact Out.int h t
  case all.lst ws =>
    obtain ⟨a, ys, rfl, sa, qa⟩ := r1.lst
    cases e : boolsOf ws with
    | none => simp only [evB1, e] at h
    | some bs =>
      simp only [evB1, e] at h
      have ey := boolsOf_rv e qa
      subst ey
      have h : Out X.K CA H P (.bl (bs.all id), false) Q := h
      exact cr_all hc pins s σ H _ us Q I r ⟨a, bs, rfl, SqL.of sa, h.bl t⟩
  case srt.lst ws =>
    obtain ⟨a, ys, rfl, sa, qa⟩ := r1.lst
    cases e : intsOf ws with
    | none => simp only [evB1, e] at h
    | some ns =>
      by_cases h64 : ns.length < 64
      · simp only [evB1, e, h64, decide_true, if_true] at h
        have ey := intsOf_rv e qa
        subst ey
        refine cr_sorted pins s σ H _ us Q I r ⟨a, ns, rfl, SqL.of sa, h64, fun ns' p h1 h2 hp => ?_⟩
        rw [srtI_eq h1 h2]
        exact h.newL t (ints_rvs _) p hp
      · simp only [evB1, e, h64, decide_false] at h
        exact h.elim
theorem Vals2 {x y : V} {us : List Value} (h : Vals [x, y] us) : ∃ u w, us = [u, w] ∧ RelV x u ∧ RelV y w := by
  cases h with
  | cons r t => cases t with
    | cons r2 t2 => cases t2; exact ⟨_, _, rfl, r, r2⟩
theorem dp_bl {K : PySem.W.Frag} {H : Hp} {b : Bool} : Dp K H (.bl b) (.bool b) := RV.dp (CA := fun _ => none) (P := fun _ => False) (.bl b) rfl (.bl b)
theorem call_mt (hu : X.A.units + 64 < cLine) (f : Bf) (hf : bfFn f = false) (va : Val) (b : Bool) {pins : List (Addr × Obj)} {s : Shared} {σ : L2.St} {H : Hp} {us : List Value} {Q : VK} {x : V} {P L : Addr → Prop} (I : Inv X pins σ H s) (r : Vals [x, .bl b] us) (t : Trk P H)
    (r1 : RVo X.K CA H P L va x) (h : match evB2 f va (.bl b) with | .ok v => Out X.K CA H P (v, isLst v) Q | _ => False) : wpAny (model X.prog X.w) X.A (call (bfV f) us) (EP X pins σ Q) X.xe s := by
  cases va
  case lst ws =>
    have ho : okD (.lst ws) = true := by
      cases e : okD (.lst ws) with
      | true => rfl
      | false => cases f <;> first | exact absurd hf (by decide) | (simp only [evB2, e] at h; exact h.elim)
    have hD : isD (.lst ws) = true ∧ SeqAt.shaped (dat (.lst ws)) = true := by rw [okD, Bool.and_eq_true] at ho; exact ho
    have d1 : Dp X.K H x (.list (dats ws)) := RV.dp (.lst ws) hD.1 r1.rv
    have sl : SeqAt.shaped (.list (dats ws)) = true := hD.2
    obtain ⟨u, w, rfl, rx, ry⟩ := Vals2 r
    obtain ⟨bs, r2⟩ := Dp.reads I (.bool b) (.bl b) w dp_bl ry
    have hxs : PyData.canLayAll0 (dats ws) = true := SeqAt.canLay_of_shaped sl
    have hd0 : (PyData.bool b).canLay0 = true := rfl
    have hroom : X.A.units + 1 + min (PyData.depthAll (dats ws)) (PyData.bool b).depth < cLine := by
      have e : (PyData.bool b).depth ≤ 1 := by show _ ≤ 1; simp [PyData.depth]
      have := Nat.min_le_right (PyData.depthAll (dats ws)) (PyData.bool b).depth
      omega
    obtain ⟨a, ys, rfl, sa, qa⟩ := r1.lst
    cases rx
    cases d1 with
    | lst hs ha =>
      obtain ⟨its, rv, ⟨⟨cls, dd, data, sls⟩, n, hg, hc, hdn, hdt⟩, hlen⟩ := I.list hs
      simp only at hc hdt
      subst hc hdt
      obtain ⟨as, h4⟩ := Dp.readsAll I (dats ws) _ its ha rv
      have hn : its.length = (dats ws).length := SeqAt.ReadsAll.length (dats ws) its as h4
      have hmap : its.map (SeqAt.readOf s.heap) = dats ws := SeqAt.readsAll_map (dats ws) its as hxs h4
      have hvl := rv.length
      have hsl := sizeLine_eq
      cases f
      case cnt =>
        simp only [evB2, ho, if_true] at h
        have h : Out X.K CA H P (.int ((dats ws).countP fun z => PyData.eqv z (.bool b) : Nat), false) Q := h
        refine call_meets PySem.F.slot_list_count ⟨_, hg, rfl⟩ PySem.F.entry_list_count (PySem.F.args_list_count_2 _ _)
          (SeqAt.list_countAt a its.toArray n dd sls w (fun u => PyData.eqv (SeqAt.readOf s.heap u) (.bool b))) ⟨hg, SeqAt.items_eqAt (vs := its.toArray) (show ReadsAll s.heap its.toArray.toList (dats ws) as from h4) r2 hxs hd0 hroom, ?_⟩
        have ec : its.toArray.toList.countP (fun u => PyData.eqv (SeqAt.readOf s.heap u) (.bool b)) = (dats ws).countP fun z => PyData.eqv z (.bool b) := by
          show its.countP _ = _
          rw [← hmap, List.countP_map]
          rfl
        refine ⟨.int ((dats ws).countP fun z => PyData.eqv z (.bool b) : Nat), H, I.tok _, ⟨s.toks, ?_⟩, h.int t⟩
        rw [ec]
      case idx =>
        simp only [evB2, ho, if_true] at h
        cases ej : (dats ws).findIdx? fun z => PyData.eqv z (.bool b) with
        | none => rw [ej] at h; exact h.elim
        | some j =>
          rw [ej] at h
          have h : Out X.K CA H P (.int (j : Nat), false) Q := h
          obtain ⟨hjd, hit, hno⟩ := List.findIdx?_eq_some_iff_getElem.mp ej
          have hj : j < its.toArray.size := by
            have : its.toArray.size = its.length := rfl
            omega
          have at_ : ∀ (m : Nat) (hm : m < its.toArray.size) (z' : PyData), (dats ws)[m]? = some z' → SeqAt.readOf s.heap its.toArray[m] = z' := by
            intro m hm z' hz'
            have hml : m < its.length := by simpa using hm
            rw [← hmap, List.getElem?_map, List.getElem?_eq_getElem hml] at hz'
            have e1 : SeqAt.readOf s.heap its[m] = z' := Option.some.inj (show some (SeqAt.readOf s.heap its[m]) = some z' from hz')
            simpa using e1
          refine call_meets PySem.F.slot_list_index ⟨_, hg, rfl⟩ PySem.F.entry_list_index (PySem.F.args_list_index_2 _ _)
            (SeqAt.list_indexAt a its.toArray n dd sls w (fun u => PyData.eqv (SeqAt.readOf s.heap u) (.bool b)) j hj (by omega) ?_ ?_) ⟨hg, SeqAt.items_eqAt (vs := its.toArray) (show ReadsAll s.heap its.toArray.toList (dats ws) as from h4) r2 hxs hd0 hroom, ?_⟩
          · show PyData.eqv (SeqAt.readOf s.heap its.toArray[j]) (.bool b) = true
            rw [at_ j hj _ (List.getElem?_eq_getElem hjd)]
            exact hit
          · intro m hm hmj
            have hmd : m < (dats ws).length := by omega
            show PyData.eqv (SeqAt.readOf s.heap its.toArray[m]) (.bool b) = false
            rw [at_ m hm _ (List.getElem?_eq_getElem hmd)]
            simpa using hno m hmj
          · exact ⟨.int (j : Nat), H, I.tok _, ⟨_, rfl⟩, h.int t⟩
      all_goals exact absurd hf (by decide)
  all_goals
    exfalso
    cases f <;> first | exact absurd hf (by decide) | exact h.elim
theorem call_b2 (hc : X.calm = true) (f : Bf) (hf : bfFn f = true) (va vb : Val) {pins : List (Addr × Obj)} {s : Shared} {σ : L2.St} {H : Hp} {us : List Value} {Q : VK} {x y : V} {P L : Addr → Prop} (I : Inv X pins σ H s) (r : Vals [x, y] us) (t : Trk P H)
    (r1 : RVo X.K CA H P L va x) (r2 : RVo X.K CA H P L vb y) (h : match evB2 f va vb with | .ok v => Out X.K CA H P (v, isLst v) Q | _ => False) : wpAny (model X.prog X.w) X.A (call (bfV f) us) (EP X pins σ Q) X.xe s := by
  revert h
  cases f <;> first | exact absurd hf (by decide) | skip
  all_goals cases va <;> cases vb <;> first | exact fun h => h.elim | intro h
  all_goals cases r1.int; cases r2.int
  · exact call_max2 hc pins s σ H _ us Q I r ⟨_, _, rfl, h.int t⟩
  · exact call_min2 hc pins s σ H _ us Q I r ⟨_, _, rfl, h.int t⟩
theorem call_bf (hc : X.calm = true) (f : Bf) (hf : bfFn f = true) : CallR X (bfV f) (rBf X.K CA f) := by
  intro pins s σ H xs us Q I r h
  obtain ⟨vs, P, L, t, ra, h⟩ := h
  match vs, ra, h with
  | [], _, h => exact h.elim
  | _ :: _ :: _ :: _, _, h => exact h.elim
  | [va, vb], ra, h =>
    obtain ⟨x, y, rfl, r1, r2⟩ := pair2 ra
    exact call_b2 hc f hf va vb I r t r1 r2 h
  | [va], ra, h =>
    obtain ⟨x, rfl, r1⟩ := pair1 ra
    exact call_b1 hc f va I r t r1 h
theorem call_bfI : CallR X (bfV .int) (rBf X.K CA .int) := by
  intro pins s σ H xs us Q I r h
  obtain ⟨vs, P, L, t, ra, h⟩ := h
  match vs, ra, h with
  | [], _, h => exact h.elim
  | _ :: _ :: _ :: _, _, h => exact h.elim
  | [va, vb], ra, h => exact h.elim
  | [va], ra, h =>
    obtain ⟨x, rfl, r1⟩ := pair1 ra
    revert h
    cases va <;> first | exact fun h => h.elim | intro h
    case int i =>
      cases r1.int
      exact call_int1 pins s σ H _ us Q I r (.inl ⟨_, rfl, h.int t⟩)
    case bl k =>
      cases r1.bl
      exact call_int1 pins s σ H _ us Q I r (.inr ⟨_, rfl, h.int t⟩)
    case str z =>
      cases r1.str
      revert h
      show (match (match PySem.intText? z with | some n => if decide (z.length ≤ 640) then G.R.ok (Val.int n) else .bad | none => .bad) with | .ok v => Out X.K CA H P (v, isLst v) Q | _ => False) → _
      cases hi : PySem.intText? z with
      | none => exact fun h => h.elim
      | some n =>
        by_cases hl : z.length ≤ 640
        · simp only [hl, decide_true, if_true]
          intro h
          have h : Out X.K CA H P (.int n, false) Q := h
          exact call_int_str pins s σ H _ us Q I r ⟨z, n, rfl, hi, hl, h.int t⟩
        · simp only [hl, decide_false]
          exact fun h => h.elim
end
end G

set_option linter.all false
set_option maxHeartbeats 2000000
set_option maxRecDepth 100000
namespace G
open PySem PySem.Spec PyProof.Rows HT
open L2 hiding Takes XE CX takes_of passes_call ps_raise PMk MkP mk_of pmk_own passAt ps_try_as ps_try_many HdsOk
open L2N (Takes XE CX takes_of passes_call ps_raise PMk MkP mk_of pmk_own passAt)
structure CF (K : PySem.W.Frag) (C0 : Addr) (c : Nat) (C : Addr) : Prop where
  cls : ∃ cd : ClassData, PySem.W.clsIn K C = some cd ∧ cd.mro = (if c = 0 then [.ref C] else [.ref C, .ref C0]) ++ PySem.HandSPX.veTail
  ty : PySem.W.typeIn K (.ref C) = some (.type "type")
  ex : ExcC K C
  made : PySem.W.excIn K C [.type "ValueError", .type "Exception", .type "BaseException", .type "object"] "ValueError.__new__" = true
  kp : PySem.W.keepIn K (.ref C) = true
structure CFs (K : PySem.W.Frag) (CA : Nat → Option Addr) : Prop where
  base : (∃ c C, CA c = some C) → ∃ C0, CA 0 = some C0 ∧ ∀ c C, CA c = some C → CF K C0 c C
  inj : ∀ c d C, CA c = some C → CA d = some C → c = d
section
variable {K : PySem.W.Frag} {CA : Nat → Option Addr}
theorem CF.sub {C0 C : Addr} {c : Nat} (h : CF K C0 c C) (v : Value) : PySem.W.subIn K (.ref C) v = some ((((if c = 0 then [.ref C] else [.ref C, .ref C0]) ++ PySem.HandSPX.veTail : List Value)).contains v) := by
  obtain ⟨cd, h1, h2⟩ := h.cls
  show PySem.W.mroIn K C v = _
  unfold PySem.W.mroIn
  rw [h1]
  show (if cd.mro.isEmpty = true then none else some (cd.mro.contains v)) = _
  rw [h2]
  have e : ((if c = 0 then [Value.ref C] else [Value.ref C, Value.ref C0]) ++ PySem.HandSPX.veTail).isEmpty = false := by
    split <;> rfl
  rw [e]
  rfl
theorem CF.isC {C0 C : Addr} {c : Nat} (h : CF K C0 c C) : ((PySem.W.clsIn K C).isSome && PySem.W.typeIn K (.ref C) == some (.type "type")) = true := by
  obtain ⟨cd, h1, h2⟩ := h.cls
  rw [h1, h.ty]; rfl
theorem CFs.one (T : CFs K CA) {c d : Nat} {C D : Addr} (hc : CA c = some C) (hd : CA d = some D) : PySem.W.kitOne K (.ref C) (.ref D) = some (excSub c d) := by
  obtain ⟨C0, h0, hF⟩ := T.base ⟨_, _, hc⟩
  have FC := hF c C hc
  have FD := hF d D hd
  unfold PySem.W.kitOne
  by_cases e : c = d
  · subst e
    rw [hc] at hd
    cases hd
    rw [if_pos (by simp)]
    simp [excSub]
  · have hne : C ≠ D := fun z => e (T.inj c d C hc (by rw [z]; exact hd))
    rw [if_neg (by simpa using hne)]
    show (if ((PySem.W.clsIn K D).isSome && PySem.W.typeIn K (.ref D) == some (.type "type")) = true then PySem.W.subIn K (.ref C) (.ref D) else none) = _
    rw [if_pos FD.isC, FC.sub]
    congr 1
    by_cases hc0 : c = 0
    · subst hc0
      rw [if_pos rfl]
      have : excSub 0 d = false := by
        unfold excSub
        simp; omega
      rw [this, List.contains_eq_mem]
      refine decide_eq_false fun q => ?_
      simp [PySem.HandSPX.veTail] at q
      exact hne q.symm
    · rw [if_neg hc0]
      by_cases hd0 : d = 0
      · subst hd0
        rw [h0] at hd
        cases hd
        simp [excSub, PySem.HandSPX.veTail]
      · have hz : C0 ≠ D := fun z => hd0 (T.inj 0 d C0 h0 (by rw [z]; exact hd)).symm
        have : excSub c d = false := by
          unfold excSub
          simp; omega
        rw [this, List.contains_eq_mem]
        refine decide_eq_false fun q => ?_
        simp [PySem.HandSPX.veTail] at q
        rcases q with q | q
        · exact hne q.symm
        · exact hz q.symm
theorem CFs.val (T : CFs K CA) {c : Nat} {C : Addr} (hc : CA c = some C) {n : String} {b : Bool} (hm : PySem.W.kitMeta n = true) (h : PySem.HandSPX.veTail.contains (.type n) = b) : PySem.W.kitOne K (.ref C) (.type n) = some b := by
  obtain ⟨C0, h0, hF⟩ := T.base ⟨_, _, hc⟩
  have FC := hF c C hc
  unfold PySem.W.kitOne
  rw [if_neg (by simp)]
  show (if PySem.W.kitMeta n = true then PySem.W.subIn K (.ref C) (.type n) else none) = _
  rw [if_pos hm, FC.sub]
  congr 1
  rw [← h, List.contains_eq_mem, List.contains_eq_mem]
  split <;> simp
theorem CFs.no (T : CFs K CA) {d : Nat} {D : Addr} (hd : CA d = some D) {t : String} {l : List Value} (hm : fastBuiltinMro t = some l) (hl : l.all (fun v => match v with | .type _ => true | _ => false) = true) : PySem.W.kitOne K (.type t) (.ref D) = some false := by
  obtain ⟨C0, h0, hF⟩ := T.base ⟨_, _, hd⟩
  have FD := hF d D hd
  unfold PySem.W.kitOne
  rw [if_neg (by simp)]
  show (if ((PySem.W.clsIn K D).isSome && PySem.W.typeIn K (.ref D) == some (.type "type")) = true then PySem.W.subIn K (.type t) (.ref D) else none) = _
  rw [if_pos FD.isC]
  show (fastBuiltinMro t).map (·.contains (.ref D)) = _
  rw [hm]
  show some (l.contains (.ref D)) = _
  congr 1
  cases e : l.contains (.ref D) with
  | false => rfl
  | true =>
    have := List.all_eq_true.mp hl (.ref D) (by simpa using e)
    cases this
end
def clsV (CA : Nat → Option Addr) : Cl → V → Value → Prop
  | .own d, v, w => ∃ D, CA d = some D ∧ v = .ref D ∧ w = .ref D
  | .ty n, v, w => v = .ty n ∧ w = .type n
theorem clsV.is {CA : Nat → Option Addr} {c : Cl} {v : V} {w : Value} (h : clsV CA c v w) : ClsV v w := by
  cases c with
  | own d => obtain ⟨D, _, rfl, rfl⟩ := h; exact .own D
  | ty n => obtain ⟨rfl, rfl⟩ := h; exact .ty n
section
variable {X : Cx} {CA : Nat → Option Addr} {pins : List (Addr × Obj)} {σ : L2.St} {H : Hp} {s : Shared} {P L : Addr → Prop}
theorem tyX_of {v : Val} {x : V} {n : String} (r : RVo X.K CA H P L v x) (h : tyOf v = some n) : TyX X.K H x (.type n) := by
  cases v <;> first | (cases h; done) | skip
  case non => cases r.non; cases h; exact .base .non
  case bl k => cases r.bl; cases h; exact .base (.bl k)
  case int i => cases r.int; cases h; exact .base (.int i)
  case str z => cases r.str; cases h; exact .base (.str z)
  case tup vs =>
    obtain ⟨a, xs, rfl, sa, t⟩ := r.tup
    cases h
    rcases sa with (sa | ⟨o, sa⟩) | ⟨o, its, n, e, c, _⟩
    · exact .base (.tup sa)
    · exact .fTuple sa
    · exact .kTuple e c
  case lst vs =>
    obtain ⟨a, xs, rfl, sa, t⟩ := r.lst
    cases h
    exact .base (.lst sa)
  case scr ns =>
    obtain ⟨a, rfl, sa⟩ := r.scr
    cases h
    rcases sa with ⟨o, sa⟩ | ⟨o, its, n, e, c, _⟩
    · exact .base (.frz sa)
    · exact .kList e c
  case hid =>
    cases r.of rfl with
    | hid p s => cases h; exact .base (.lst s)
theorem mro_some : ∀ n ∈ ["NoneType", "bool", "int", "str", "tuple", "list"], ∃ l, fastBuiltinMro n = some l ∧ l.all (fun v => match v with | .type _ => true | _ => false) = true := by
  intro n hn
  simp only [List.mem_cons, List.not_mem_nil, or_false] at hn
  rcases hn with rfl | rfl | rfl | rfl | rfl | rfl
  · exact ⟨[.type "NoneType", .type "object"], by decide +kernel, by decide +kernel⟩
  · exact ⟨[.type "bool", .type "int", .type "object"], by decide +kernel, by decide +kernel⟩
  · exact ⟨[.type "int", .type "object"], by decide +kernel, by decide +kernel⟩
  · exact ⟨[.type "str", .type "object"], by decide +kernel, by decide +kernel⟩
  · exact ⟨[.type "tuple", .type "object"], by decide +kernel, by decide +kernel⟩
  · exact ⟨[.type "list", .type "object"], by decide +kernel, by decide +kernel⟩
theorem tyOf_mem {v : Val} {n : String} (h : tyOf v = some n) : n ∈ ["NoneType", "bool", "int", "str", "tuple", "list"] := by
  cases v <;> simp [tyOf] at h <;> subst h <;> decide
theorem ty_kit : ∀ n ∈ ["NoneType", "bool", "int", "str", "tuple", "list"], ∀ (T : String) (b : Bool), tySub n T = some b → kitB n T = some b := by
  intro n hn T b h
  unfold tySub at h
  have go : ∀ T ∈ ["int", "bool", "tuple", "list", "str", "ValueError"], ∀ n ∈ ["NoneType", "bool", "int", "str", "tuple", "list"], kitB n T = (if T = "int" then some (n == "int" || n == "bool") else if T = "ValueError" then some false else some (n == T)) := by decide +kernel
  split at h
  · rename_i e; subst e; rw [go _ (by decide) n hn, if_pos rfl]; exact h
  · split at h
    · rename_i e; subst e; rw [go _ (by decide) n hn]; exact h
    · split at h
      · rename_i e; subst e; rw [go _ (by decide) n hn]; exact h
      · split at h
        · rename_i e; subst e; rw [go _ (by decide) n hn]; exact h
        · split at h
          · rename_i e; subst e; rw [go _ (by decide) n hn]; exact h
          · split at h
            · rename_i e; subst e; rw [go _ (by decide) n hn]; exact h
            · cases h
def NFD (v : Val) : Prop := (∀ k, v ≠ .fn k) ∧ (∀ k, v ≠ .dct k) ∧ ∀ ks vs, v ≠ .dk ks vs
theorem isi1_nf {v : Val} {c : Cl} {b : Bool} (h : isi1 v c = .ok b) : NFD v := by
  refine ⟨fun k e => ?_, fun k e => ?_, fun k l e => ?_⟩ <;> (subst e; cases c <;> cases h)
theorem isiA_nf {v : Val} {cs : List Cl} {b : Bool} (h : isiA v cs = .ok b) : NFD v := by
  refine ⟨fun k e => ?_, fun k e => ?_, fun k l e => ?_⟩ <;> (subst e; cases cs with
    | nil => cases h
    | cons c cs => cases c <;> cases h)
theorem isiA_one {v : Val} {c : Cl} {b : Bool} (h : isi1 v c = .ok b) : isiA v [c] = .ok b := by
  have nf := isi1_nf h
  simp only [isiA, h, R.bind_ok]
  cases b
  · cases v <;> first | rfl | exact absurd rfl (nf.1 _) | exact absurd rfl (nf.2.1 _) | exact absurd rfl (nf.2.2 _ _)
  · rfl
theorem isiA_nil {v : Val} {b : Bool} (h : isiA v [] = .ok b) : b = false := by
  cases v <;> cases h <;> rfl
theorem kit_any (T : CFs X.K CA) (I : Inv X pins σ H s) {v : Val} {x : V} {u : Value} (nf : NFD v) (r : RVo X.K CA H P L v x) (rx : RelV x u) :
    ∃ (t : Value) (Z : Heap → Prop), PySem.W.KitX X.K u t Z ∧ Z s.heap ∧ u ≠ .builtin "__main__.__loader__#opaque" ∧ ∀ c cv cw b, isi1 v c = .ok b → clsV CA c cv cw → PySem.W.kitOne X.K t cw = some b := by
  cases e : tyOf v with
  | some n =>
    obtain ⟨Z, k, z, hu⟩ := kit_of I rx (tyX_of r e)
    refine ⟨.type n, Z, k, z, hu, fun c cv cw b h hc => ?_⟩
    cases c with
    | ty m =>
      obtain ⟨rfl, rfl⟩ := hc
      have h2 : ofO (tySub n m) = .ok b := by
        unfold isi1 at h
        cases v <;> first | (cases e; done) | (simp only [e] at h; exact h)
      cases h3 : tySub n m with
      | none => rw [h3] at h2; cases h2
      | some b' =>
        rw [h3] at h2
        cases h2
        exact kit_ty (ty_kit n (tyOf_mem e) m b h3)
    | own d =>
      obtain ⟨D, hd, rfl, rfl⟩ := hc
      have h2 : b = false := by
        unfold isi1 at h
        cases v <;> first | (cases e; done) | (cases h; rfl)
      subst h2
      obtain ⟨l, hl, hl2⟩ := mro_some n (tyOf_mem e)
      exact T.no hd hl hl2
  | none =>
    cases v <;> first | (cases e; done) | exact absurd rfl (nf.1 _) | exact absurd rfl (nf.2.1 _) | exact absurd rfl (nf.2.2 _ _) | skip
    case exc c =>
      cases r.of rfl with
      | @exc a C _ hc ha =>
        cases rx
        obtain ⟨C0, h0, hF⟩ := T.base ⟨_, _, hc⟩
        have E := (hF c C hc).ex
        obtain ⟨⟨oe, vs, hg, hz, hd⟩, _⟩ := (show ObjOk X.prog X.w H s.heap a (ExT (.ref C) a) from I.hok a _ ha)
        have J : PySem.W.InstAt s.heap a oe C none := by
          obtain ⟨oc, od, oda, osl⟩ := oe
          obtain ⟨h1, h2, _⟩ := hz
          dsimp only at h1 h2 hd
          subst h1 h2 hd
          exact ⟨hg, rfl, rfl, trivial⟩
        refine ⟨.ref C, fun h => PySem.W.InstAt h a oe C none, PySem.W.handS_kitx_exc E.hg E.hk E.hs E.hd E.ha E.hn E.ht E.hm, J, (by intro z; cases z), fun d cv cw b h hcl => ?_⟩
        cases d with
        | own d =>
          obtain ⟨D, hd, rfl, rfl⟩ := hcl
          cases h
          exact T.one hc hd
        | ty n =>
          obtain ⟨rfl, rfl⟩ := hcl
          simp only [isi1] at h
          split at h
          · rename_i e; subst e; cases h
            exact T.val hc (by decide +kernel) (by decide +kernel)
          · split at h
            · rename_i e; cases h
              rcases e with e | e | e | e | e <;> subst e <;> exact T.val hc (by decide +kernel) (by decide +kernel)
            · cases h
def rIs1 (K : PySem.W.Frag) (CA : Nat → Option Addr) (c : Cl) : List V → Hp → VK → Prop := fun xs H Q => ∃ (va : Val) (P L : Addr → Prop) (x cv : V) (cw : Value) (b : Bool), xs = [x, cv] ∧ Trk P H ∧ RVo K CA H P L va x ∧ clsV CA c cv cw ∧ isi1 va c = .ok b ∧ Q (.bl b) H
def rIsA (K : PySem.W.Frag) (CA : Nat → Option Addr) (cs : List Cl) : List V → Hp → VK → Prop := fun xs H Q => ∃ (va : Val) (P L : Addr → Prop) (x : V) (tp : Addr) (cvs : List V) (cws : List Value) (b : Bool), xs = [x, .ref tp] ∧ Trk P H ∧ RVo K CA H P L va x ∧
  H tp = some (.tup cvs) ∧ Paired (fun c (p : V × Value) => clsV CA c p.1 p.2) cs (cvs.zip cws) ∧ cvs.length = cws.length ∧ isiA va cs = .ok b ∧ Q (.bl b) H
theorem call_is1 (T : CFs X.K CA) (c : Cl) : CallR X (.builtin "isinstance") (rIs1 X.K CA c) := by
  intro pins s σ H xs us Q I r h
  obtain ⟨va, P, L, x, cv, cw, b, rfl, t, ra, hc, e, q⟩ := h
  obtain ⟨u1, u2, rfl, r1, r2⟩ := vals2 r
  have e2 := hc.is.eq r2
  subst e2
  obtain ⟨ty, Z, k, z, hu, hk⟩ := kit_any T I (isi1_nf e) ra r1
  exact PySem.W.kia_one k I.kIn z (hk c cv u2 b e hc) hu fun tk => ⟨.bl b, H, I.tok tk, rfl, q⟩
theorem call_isA (T : CFs X.K CA) (cs : List Cl) : CallR X (.builtin "isinstance") (rIsA X.K CA cs) := by
  intro pins s σ H xs us Q I r h
  obtain ⟨va, P, L, x, tp, cvs, cws, b, rfl, t, ra, hT, hp, hlen, e, q⟩ := h
  obtain ⟨u1, u2, rfl, r1, r2⟩ := vals2 r
  cases (show u2 = Value.ref tp from r2)
  obtain ⟨ty, Z, k, z, hu, hk⟩ := kit_any T I (isiA_nf e) ra r1
  obtain ⟨_, its, rv, o, h1, h2, n, h3⟩ := (show ObjOk X.prog X.w H s.heap tp (.tup cvs) from I.hok tp _ hT)
  have e3 : its = cws := by
    have : ∀ (cs : List Cl) (cvs : List V) (cws its : List Value), Paired (fun c (p : V × Value) => clsV CA c p.1 p.2) cs (cvs.zip cws) → cvs.length = cws.length → Vals cvs its → its = cws := by
      intro cs cvs
      induction cvs generalizing cs with
      | nil =>
        intro cws its _ hl hv
        cases hv
        cases cws with
        | nil => rfl
        | cons _ _ => cases hl
      | cons c cvs ih =>
        intro cws its hp hl hv
        cases cws with
        | nil => cases hl
        | cons w ws =>
          cases hv with
          | cons rv1 rv2 =>
            rw [List.zip_cons_cons] at hp
            cases hp with
            | cons p1 p2 => rw [p1.is.eq rv1, ih _ ws _ p2 (Nat.succ.inj hl) rv2]
    exact this cs cvs cws its hp hlen rv
  subst e3
  obtain ⟨oc, od, dt, sl⟩ := o
  simp only at h2 h3
  subst h2 h3
  have ek : PySem.W.kitAny X.K ty its = some b := by
    have : ∀ (cs : List Cl) (cvs : List V) (cws : List Value), Paired (fun c (p : V × Value) => clsV CA c p.1 p.2) cs (cvs.zip cws) → cvs.length = cws.length → isiA va cs = .ok b → PySem.W.kitAny X.K ty cws = some b := by
      intro cs
      induction cs with
      | nil =>
        intro cvs cws hp hl e
        cases cvs with
        | nil =>
          cases cws with
          | nil => cases isiA_nil e; rfl
          | cons _ _ => cases hl
        | cons _ _ =>
          cases cws with
          | nil => cases hl
          | cons _ _ => cases hp
      | cons c cs ih =>
        intro cvs cws hp hl e
        cases cvs with
        | nil => cases hp
        | cons cv cvs =>
          cases cws with
          | nil => cases hl
          | cons w ws =>
            rw [List.zip_cons_cons] at hp
            cases hp with
            | cons p1 p2 =>
              obtain ⟨b1, e1, e2⟩ := R.bind_eq_ok e
              refine kitAny_cons (hk c cv w b1 e1 p1) (fun hb => ?_) (fun hb => ?_)
              · subst hb
                exact ih cvs ws p2 (Nat.succ.inj hl) e2
              · subst hb
                cases e2; rfl
    exact this cs cvs its hp hlen e
  exact PySem.W.kia_tup k I.kIn z h1 ek hu fun tk => ⟨.bl b, H, I.tok tk, rfl, q⟩
end
end G

set_option linter.all false
set_option maxHeartbeats 2000000
set_option maxRecDepth 100000
namespace G
open PySem PySem.Spec PyProof.Rows HT
open L2 hiding Takes XE CX takes_of passes_call ps_raise PMk MkP mk_of pmk_own passAt ps_try_as ps_try_many HdsOk
open L2N (Takes XE CX takes_of passes_call ps_raise PMk MkP mk_of pmk_own passAt)
theorem takes0' {X : Cx} : Takes X (fun _ _ _ _ => False) := fun _ _ x => by
  obtain ⟨_, _, _, _, _, _, _, _, _, _, _, _, _, _, _, _, w⟩ := x
  exact w.elim
section
variable {K : PySem.W.Frag} {CA : Nat → Option Addr} {H H1 H' H2 : Hp} {H0 : Bs} {P P1 P' P2 L M : Addr → Prop} {σ : L2.St} {W : WX} {env : Env}
def ResG {α : Type} (CA : Nat → Option Addr) (H : Hp) (σ : L2.St) (W : WX) (post : α → Prop) (r : R α) : Prop := match r with
  | .ok a => post a
  | .exc c => ∀ H' C, Same H H' → CA c = some C → W (.ref C) none σ H'
  | .bad => False
theorem ResG.bind {α β : Type} {r : R α} {f : α → R β} {post : β → Prop} (h : ResG CA H σ W post (r.bind f)) : ResG CA H σ W (fun a => ResG CA H σ W post (f a)) r := by
  cases r <;> exact h
theorem ResG.map {α β : Type} {r : R α} {f : α → β} {post : β → Prop} (h : ResG CA H σ W post (r.map f)) : ResG CA H σ W (fun a => post (f a)) r := by
  cases r <;> exact h
theorem ResG.imp {α : Type} {r : R α} {post post' : α → Prop} (h : ResG CA H σ W post r) (i : ∀ a, post a → post' a) : ResG CA H σ W post' r := by
  cases r
  · exact i _ h
  · exact h
  · exact h
theorem ResG.at {α : Type} {r : R α} {post : α → Prop} (h : ResG CA H σ W post r) (s : Same H H1) : ResG CA H1 σ W post r := by
  cases r
  · exact h
  · exact fun H' C q e => h H' C (s.trans q) e
  · exact h
theorem Out.at {p : Val × Bool} {Q : VK} (o : Out K CA H P p Q) (st : Step P H P1 H1) : Out K CA H1 P1 p Q := fun H' P' x s r => o H' P' x (st.trans s) (r.back st.s)
def OutO (K : PySem.W.Frag) (CA : Nat → Option Addr) (H : Hp) (P L : Addr → Prop) (v : Val) (Q : VK) : Prop := ∀ H' P' x, Step P H P' H' → RVo K CA H' P' L v x → Q x H'
def tE (K : PySem.W.Frag) (CA : Nat → Option Addr) (cl : Nat → List Val → R (Val × Bool)) (H0 : Bs) (W : WX) (e : E) : TE := fun σ H Q => ∃ env P, ER K CA H0 H P env σ ∧ ResG CA H σ W (fun p => Out K CA H P p Q) (evE cl e env)
def tO (K : PySem.W.Frag) (CA : Nat → Option Addr) (cl : Nat → List Val → R (Val × Bool)) (H0 : Bs) (W : WX) (e : E) : TE := fun σ H Q => ∃ env P, ER K CA H0 H P env σ ∧ ResG CA H σ W (fun v => OutO K CA H P (LA env σ e) v Q) (opd env e (evE cl e env))
def tT (K : PySem.W.Frag) (CA : Nat → Option Addr) (cl : Nat → List Val → R (Val × Bool)) (H0 : Bs) (W : WX) (e : E) : TT := fun σ H Q => ∃ env P, ER K CA H0 H P env σ ∧ ResG CA H σ W (fun b => ∀ H' P', Step P H P' H' → Q b H') (evT cl e env)
def tEs (K : PySem.W.Frag) (CA : Nat → Option Addr) (cl : Nat → List Val → R (Val × Bool)) (H0 : Bs) (W : WX) (es : List E) : TA := fun σ H Q => ∃ env P, ER K CA H0 H P env σ ∧ ResG CA H σ W (fun vs => ∀ H' P' xs, Step P H P' H' → RVs K CA H' P' vs xs → Q xs H') (evEs cl es env)
def LAs (env : Env) (σ : L2.St) (es : List E) (a : Addr) : Prop := ∃ e ∈ es, LA env σ e a
def tAs (K : PySem.W.Frag) (CA : Nat → Option Addr) (cl : Nat → List Val → R (Val × Bool)) (H0 : Bs) (W : WX) (es : List E) : TA := fun σ H Q => ∃ env P, ER K CA H0 H P env σ ∧ ResG CA H σ W (fun vs => ∀ H' P' xs, Step P H P' H' → RVos K CA H' P' (LAs env σ es) vs xs → Q xs H') (evAs cl es env)
theorem RVo.wid {v : Val} {x : V} (h : RVo K CA H P L v x) (i : ∀ a, L a → M a) : RVo K CA H P M v x := by
  rcases h with h | ⟨a, o, h1, h2⟩
  · exact .inl h
  · exact .inr ⟨a, o, i a h1, h2⟩
theorem RVos.mono : ∀ {vs : List Val} {xs : List V}, RVos K CA H P L vs xs → Same H H' → (∀ a, P a → P' a) → (∀ a, L a → M a) → RVos K CA H' P' M vs xs
  | _, _, .nil, _, _, _ => .nil
  | _, _, .cons r t, s, g, i => .cons ((r.mono s g).wid i) (RVos.mono t s g i)
variable {cl : Nat → List Val → R (Val × Bool)}
theorem tO_of {e : E} {Q : VK} (hb : ∀ i, e ≠ .bor i) (h : tO K CA cl H0 W e σ H Q) : tE K CA cl H0 W e σ H Q := by
  obtain ⟨env, P, er, h⟩ := h
  have e1 : opd env e (evE cl e env) = (evE cl e env).map (·.1) := by
    cases e <;> first | rfl | exact absurd rfl (hb _)
  rw [e1] at h
  refine ⟨env, P, er, h.map.imp fun p o H' P' x st r => ?_⟩
  obtain ⟨P3, st3, g3, r3⟩ := r.rv st
  exact o H' P3 x st3 (.inl r3)
theorem tE_nb {e : E} (hb : ∀ i, e ≠ .bor i) {env : Env} : opd env e (evE cl e env) = (evE cl e env).map (·.1) := by
  cases e <;> first | rfl | exact absurd rfl (hb _)
end
structure V3 (CA : Nat → Option Addr) (cl : Nat → List Val → R (Val × Bool)) (H0 : Bs) (X : Cx) (src : Expr) (e : E) : Prop where
  val : ∀ W, Takes X W → PE X src (tE X.K CA cl H0 W e)
  opd : ∀ W, Takes X W → PE X src (tO X.K CA cl H0 W e)
  tst : ∀ W, Takes X W → PT X src (tT X.K CA cl H0 W e)
def okSrc : Expr → Bool
  | .Starred _ _ => false
  | .Slice _ _ _ _ => false
  | .Set _ _ _ => false
  | _ => true
theorem okSrc.st {e : Expr} (h : okSrc e = true) (es : List Expr) (env : PySem.Env) : starEach (e :: es) env = (false, eval e env) :: starEach es env := by
  cases e <;> first | rfl | cases h
theorem okSrc.pi {e : Expr} (h : okSrc e = true) : PlainIx e := by
  intro o i
  cases e <;> first | rfl | cases h
theorem okSrc.fs {e : Expr} (h : okSrc e = true) (env : PySem.Env) (x : Value) : foldedSetIterable e env x = pure x := by
  cases e <;> first | rfl | cases h
theorem okSrc.bm {e : Expr} (h : okSrc e = true) (op : CmpOp) : behindInMarks op e = false := by
  cases e <;> first | rfl | cases h
def okTst : Expr → Bool
  | .UnaryOp .Not _ _ => false
  | .BoolOp _ _ _ => false
  | .IfExp _ _ _ _ => false
  | .Compare _ _ _ _ => false
  | _ => true
theorem okTst.he {e : Expr} (h : okTst e = true) (env : PySem.Env) (whole : Sem Value) : isTrue e env whole = (do let v ← whole; standAt e.pos; holding [v] (truthy v)) := by
  cases e with
  | UnaryOp op x p => cases op <;> first | rfl | cases h
  | _ => first | rfl | cases h
section
variable {X : Cx} {CA : Nat → Option Addr} {cl : Nat → List Val → R (Val × Bool)} {H0 : Bs} {src a b c : Expr} {e ea eb ec : E} {pos : Pos}
theorem V3.of (hb : ∀ i, e ≠ .bor i) (ht : okTst src = true) (h : ∀ W, Takes X W → PE X src (tE X.K CA cl H0 W e)) : V3 CA cl H0 X src e where
  val := h
  opd := fun W tk => (h W tk).imp fun σ H Q q => tO_of hb q
  tst := fun W tk => PT.imp (pt_truth ((h W tk).imp fun σ H Q q => tO_of hb q) (okTst.he ht X.env)) fun σ H Q q => by
    obtain ⟨env, P, er, q⟩ := q
    refine ⟨env, P, er, (ResG.bind q).imp fun v q H' P' x st r => ?_⟩
    cases e1 : truth v with
    | ok b => rw [e1] at q; exact ⟨b, tru_any r e1, q H' P' st⟩
    | exc c =>
      cases v <;> cases e1
    | bad => rw [e1] at q; exact q.elim
theorem v3_nm {i : Nat} {x : Str} (hN : X.N[i]? = some x) (hv : Vis X.env.scope x) (hd : (x == ("__debug__" : Str)) = false) (hcd : (x == ("__classdict__" : Str)) = false) : V3 CA cl H0 X (.Name x pos) (.nm i) :=
  .of (by intro i z; cases z) rfl fun W _ => (pe_var hN hv hd hcd).imp fun σ H Q q => by
    obtain ⟨env, P, er, q⟩ := q
    have q := q.map
    unfold lookF at q
    split at q
    · rename_i v he
      obtain ⟨x, h1, h2⟩ := er.shr i v he
      exact ⟨x, h1, Out.here q er.trk h2⟩
    · exact q.elim
theorem v3_bor {i : Nat} {x : Str} (hN : X.N[i]? = some x) (hv : Vis X.env.scope x) (hd : (x == ("__debug__" : Str)) = false) (hcd : (x == ("__classdict__" : Str)) = false) : V3 CA cl H0 X (.Name x pos) (.bor i) := by
  have ho : ∀ W, PE X (.Name x pos) (tO X.K CA cl H0 W (.bor i)) := fun W => (pe_var hN hv hd hcd).imp fun σ H Q q => by
    obtain ⟨env, P, er, q⟩ := q
    have q : ResG CA H σ W _ (look env i) := q
    unfold look at q
    split at q
    · rename_i v o he
      cases o with
      | false =>
        obtain ⟨x, h1, h2⟩ := er.shr i v he
        exact ⟨x, h1, q H P x (.refl er.trk) (.inl h2)⟩
      | true =>
        obtain ⟨a, o, h2, h3, h4, h5, h6⟩ := er.own i v he
        exact ⟨_, h2, q H P _ (.refl er.trk) (.inr ⟨a, o, ⟨i, rfl, ⟨v, he⟩, h2⟩, rfl, h3, h6⟩)⟩
    · exact q.elim
  refine ⟨fun W _ => ⟨fun pins s σ H Q I q => ?_⟩, fun W _ => ho W, fun W _ => PT.imp (pt_truth (ho W) (okTst.he rfl X.env)) fun σ H Q q => ?_⟩
  · obtain ⟨env, P, er, q⟩ := q
    exact q.elim
  · obtain ⟨env, P, er, q⟩ := q
    refine ⟨env, P, er, (ResG.bind q).imp fun v q H' P' x st r => ?_⟩
    cases e1 : truth v with
    | ok b => rw [e1] at q; exact ⟨b, tru_any r e1, q H' P' st⟩
    | exc c =>
      cases v <;> cases e1
    | bad => rw [e1] at q; exact q.elim
theorem v3_cst {v : Val} {x : V} (ht : okTst src = true) (h : PE X src (tC x)) (r : ∀ H P, RV X.K CA H P v x) : V3 CA cl H0 X src (.cst v) :=
  .of (by intro i z; cases z) ht fun W _ => h.imp fun σ H Q q => by
    obtain ⟨env, P, er, q⟩ := q
    exact Out.here q er.trk (r H P)
theorem two_k {α : Type} {post : α → Prop} {g : Val → Val → R α} {W : WX} {σ : L2.St} {H : Hp} {Q : VK} {r : R2} {env : Env} {P : Addr → Prop} (er : ER X.K CA H0 H P env σ)
    (q : ResG CA H σ W post ((opd env ea (evE cl ea env)).bind fun x => (opd env eb (evE cl eb env)).bind fun y => g x y))
    (k : ∀ va vb H2 P2 M N x y, Step P H P2 H2 → RVo X.K CA H2 P2 M va x → RVo X.K CA H2 P2 N vb y → ResG CA H2 σ W post (g va vb) → r x y H2 Q) :
    tOp r (tO X.K CA cl H0 W ea) (tO X.K CA cl H0 W eb) σ H Q :=
  ⟨env, P, er, q.bind.imp fun va q H1 P1 x st1 r1 => ⟨env, P1, er.grow st1, (q.bind.at st1.s).imp fun vb q H2 P2 y st2 r2 => k va vb H2 P2 _ _ x y (st1.trans st2) (r1.mono st2.s st2.g.1) r2 ((q.at st1.s).at st2.s)⟩⟩
theorem two_ops {f : Val → Val → R Val} {fl : Val → Bool} {W : WX} {σ : L2.St} {H : Hp} {Q : VK} {env : Env} {P : Addr → Prop} (er : ER X.K CA H0 H P env σ) (hne : ∀ x y c, f x y ≠ .exc c)
    (q : ResG CA H σ W (fun p => Out X.K CA H P p Q) ((opd env ea (evE cl ea env)).bind fun x => (opd env eb (evE cl eb env)).bind fun y => (f x y).map fun v => (v, fl v))) :
    tOp (rOp X.K CA fl f) (tO X.K CA cl H0 W ea) (tO X.K CA cl H0 W eb) σ H Q :=
  two_k er q fun va vb H2 P2 M N x y st ra rb q => ⟨va, vb, P2, _, _, st.t, ra, rb, by
    have q := q.map
    cases e1 : f va vb with
    | ok v => rw [e1] at q; exact Out.at q st
    | exc c => exact absurd e1 (hne _ _ _)
    | bad => rw [e1] at q; exact q.elim⟩
theorem evBin_ne (o : BOp) (x y : Val) (c : Nat) : evBin o x y ≠ .exc c := by
  intro h
  cases o <;> cases x <;> cases y <;> simp only [evBin] at h <;> first | contradiction | (split at h <;> first | cases h | (split at h <;> cases h))
theorem evCmp_ne (o : COp) (x y : Val) (c : Nat) : evCmp o x y ≠ .exc c := by
  intro h
  unfold evCmp at h
  split at h <;> first | cases h | (split at h <;> cases h)
theorem evCmp_bl (o : COp) (x y : Val) {v : Val} (h : evCmp o x y = .ok v) : ∃ k, v = .bl k := by
  unfold evCmp at h
  split at h <;> first | (cases h; exact ⟨_, rfl⟩) | (split at h <;> first | (cases h; exact ⟨_, rfl⟩) | cases h) | cases h
theorem evIn_ne (n : Bool) (x y : Val) (c : Nat) : evIn n x y ≠ .exc c := by
  intro h
  unfold evIn at h
  split at h <;> first | cases h | (split at h <;> first | cases h | (split at h <;> cases h))
theorem evIn_bl (n : Bool) (x y : Val) {v : Val} (h : evIn n x y = .ok v) : ∃ k, v = .bl k := by
  unfold evIn at h
  split at h <;> first | (cases h; exact ⟨_, rfl⟩) | (split at h <;> first | (cases h; exact ⟨_, rfl⟩) | cases h | (split at h <;> first | (cases h; exact ⟨_, rfl⟩) | cases h)) | cases h
theorem ofO_ne {α : Type} (o : Option α) (c : Nat) : ofO o ≠ .exc c := by
  intro h
  cases o <;> cases h
theorem evIx_ne (x y : Val) (c : Nat) : evIx x y ≠ .exc c := by
  intro h
  unfold evIx at h
  split at h <;> first | cases h | exact ofO_ne _ _ h | (split at h <;> first | cases h | exact ofO_ne _ _ h)
theorem v3_bin (hp : PyR X) (o : BOp) (ha : V3 CA cl H0 X a ea) (hb : V3 CA cl H0 X b eb) : V3 CA cl H0 X (.BinOp a (opOf o) b pos) (.bin o ea eb) :=
  .of (by intro i z; cases z) rfl fun W tk => (pe_op (op_bin hp o) (ha.opd W tk) (hb.opd W tk)).imp fun σ H Q q => by
    obtain ⟨env, P, er, q⟩ := q
    exact two_ops er (evBin_ne o) q
theorem v3_ix (hu : X.A.units + 64 < cLine) (hs : okSrc b = true) (ha : V3 CA cl H0 X a ea) (hb : V3 CA cl H0 X b eb) : V3 CA cl H0 X (.Subscript a b pos) (.ix ea eb) :=
  .of (by intro i z; cases z) rfl fun W tk => (pe_ix (ix_any hu) (ha.opd W tk) (hb.opd W tk) (okSrc.pi hs)).imp fun σ H Q q => by
    obtain ⟨env, P, er, q⟩ := q
    exact two_ops (fl := fun _ => false) er evIx_ne q
theorem cmp_of {op : CmpOp} {f : Val → Val → R Val} (hx : ∀ env, evE cl e env = (opd env ea (evE cl ea env)).bind fun x => (opd env eb (evE cl eb env)).bind fun y => (f x y).map (·, false)) (hne : ∀ x y c, f x y ≠ .exc c)
    (hbl : ∀ x y v, f x y = .ok v → ∃ k, v = .bl k) (hb' : ∀ i, e ≠ .bor i)
    (ho : OpR X (compareOp op) (rOp X.K CA (fun _ => false) f)) (hm : behindInMarks op b = false) (ha : V3 CA cl H0 X a ea) (hb : V3 CA cl H0 X b eb) : V3 CA cl H0 X (.Compare a [op] [b] pos) e := by
  have val : ∀ W, Takes X W → PE X (.Compare a [op] [b] pos) (tE X.K CA cl H0 W e) := fun W tk => (pe_cmpR ho (ha.opd W tk) (hb.opd W tk) hm).imp fun σ H Q q => by
    obtain ⟨env, P, er, q⟩ := q
    rw [hx] at q
    exact two_ops (fl := fun _ => false) er hne q
  refine ⟨val, fun W tk => (val W tk).imp fun σ H Q q => tO_of hb' q, fun W tk => PT.imp (pt_cmpR ho (ha.opd W tk) (hb.opd W tk) hm) fun σ H Q q => ?_⟩
  obtain ⟨env, P, er, q⟩ := q
  unfold evT at q
  rw [tE_nb hb', hx] at q
  simp only [R.map_bind, R.bind_assoc, R.map_map, R.bind_map] at q
  refine two_k er q fun va vb H2 P2 M N x y st ra rb q => ⟨va, vb, P2, _, _, st.t, ra, rb, ?_⟩
  have q := q.bind
  cases e1 : f va vb with
  | ok v =>
    rw [e1] at q
    obtain ⟨k, rfl⟩ := hbl _ _ _ e1
    intro H' P' z st2 r2
    rcases r2 with ⟨_, r2⟩ | ⟨r2, _⟩
    · cases r2
      exact ⟨k, rfl, q H' P' (st.trans st2)⟩
    · cases r2
  | exc c => exact absurd e1 (hne _ _ _)
  | bad => rw [e1] at q; exact q.elim
theorem v3_cmp (hu : X.A.units + 64 < cLine) (o : COp) (ha : V3 CA cl H0 X a ea) (hb : V3 CA cl H0 X b eb) : V3 CA cl H0 X (.Compare a [cpOf o] [b] pos) (.cmp o ea eb) :=
  cmp_of (fun env => rfl) (evCmp_ne o) (fun x y v => evCmp_bl o x y) (by intro i z; cases z) (op_cmp hu o) (nobehind _ (by cases o <;> decide) (by cases o <;> decide)) ha hb
theorem v3_inn (hu : X.A.units + 64 < cLine) (n : Bool) (hs : okSrc b = true) (ha : V3 CA cl H0 X a ea) (hb : V3 CA cl H0 X b eb) : V3 CA cl H0 X (.Compare a [inOf n] [b] pos) (.inn n ea eb) :=
  cmp_of (fun env => rfl) (evIn_ne n) (fun x y v => evIn_bl n x y) (by intro i z; cases z) (op_inn hu n) (okSrc.bm hs _) ha hb
theorem isNon_rv {K : PySem.W.Frag} {H : Hp} {P L : Addr → Prop} {v : Val} {x : V} (r : RVo K CA H P L v x) : decide (x = .non) = isNon v := by
  rcases r with r | ⟨a, o, _, rfl, _, ow⟩
  · cases r <;> rfl
  · cases ow <;> rfl
def isOf : Bool → CmpOp
  | false => .Is
  | true => .IsNot
theorem v3_isn (n : Bool) {j : Nat} {pos' : Pos} (ha : V3 CA cl H0 X a ea) : V3 CA cl H0 X (.Compare a [isOf n] [.Constant .none j pos'] pos) (.isn n ea) := by
  have pc : ∀ W, Takes X W → PC X (isOf n) a (.Constant .none j pos') (fun σ H Q => tO X.K CA cl H0 W ea σ H fun x H1 => Q (.bl (if n then !decide (x = .non) else decide (x = .non))) H1) := fun W tk => by
    cases n
    · exact pc_isN (ha.opd W tk)
    · exact pc_notN (ha.opd W tk)
  have val : ∀ W, Takes X W → PE X (.Compare a [isOf n] [.Constant .none j pos'] pos) (tE X.K CA cl H0 W (.isn n ea)) := fun W tk => (pe_cmp (pc W tk) rfl).imp fun σ H Q q => by
    obtain ⟨env, P, er, q⟩ := q
    refine ⟨env, P, er, (ResG.bind q).imp fun v q H' P' x st r => ?_⟩
    dsimp only
    rw [isNon_rv r]
    exact (Out.at q st).bl st.t
  refine ⟨val, fun W tk => (val W tk).imp fun σ H Q q => tO_of (by intro i z; cases z) q, fun W tk => PT.imp (pt_cmp (pc W tk) rfl) fun σ H Q q => ?_⟩
  obtain ⟨env, P, er, q⟩ := q
  unfold evT at q
  rw [tE_nb (by intro i z; cases z)] at q
  simp only [evE, R.map_bind, R.bind_assoc, R.map_ok, R.bind_ok] at q
  refine ⟨env, P, er, (ResG.bind q).imp fun v q H' P' x st r => ?_⟩
  dsimp only
  rw [isNon_rv r]
  exact ⟨_, rfl, q H' P' st⟩
theorem v3_neg (ha : V3 CA cl H0 X a ea) : V3 CA cl H0 X (.UnaryOp .USub a pos) (.neg ea) :=
  .of (by intro i z; cases z) rfl fun W tk => (pe_un un_neg (ha.opd W tk)).imp fun σ H Q q => by
    obtain ⟨env, P, er, q⟩ := q
    refine ⟨env, P, er, (ResG.bind q).imp fun v q H' P' x st r => ?_⟩
    cases v <;> first | exact q.elim | skip
    case int i =>
      cases r.int
      exact ⟨i, rfl, (Out.at q st).int st.t⟩
theorem v3_chn (hu : X.A.units + 64 < cLine) (o o' : COp) (hm : lastMarks [cpOf o, cpOf o'] [b, c] = false) (ha : V3 CA cl H0 X a ea) (hb : V3 CA cl H0 X b eb) (hc : V3 CA cl H0 X c ec) : V3 CA cl H0 X (.Compare a [cpOf o, cpOf o'] [b, c] pos) (.chn o o' ea eb ec) := by
  have go : ∀ {W : WX} {σ : L2.St} {H : Hp} {Q : VK} {env : Env} {P : Addr → Prop}, ER X.K CA H0 H P env σ →
      ResG CA H σ W (fun v => ∀ k, v = Val.bl k → ∀ H' P', Step P H P' H' → Q (.bl k) H') ((opd env ea (evE cl ea env)).bind fun x => (opd env eb (evE cl eb env)).bind fun y => (evCmp o x y).bind fun z => (toB z).bind fun k =>
        if k then (opd env ec (evE cl ec env)).bind fun w => evCmp o' y w else .ok (.bl false)) →
      tChain (rOp X.K CA (fun _ => false) (evCmp o)) (rOp X.K CA (fun _ => false) (evCmp o')) (tO X.K CA cl H0 W ea) (tO X.K CA cl H0 W eb) (tO X.K CA cl H0 W ec) σ H Q := by
    intro W σ H Q env P er q
    refine ⟨env, P, er, q.bind.imp fun va q H1 P1 x st1 r1 => ⟨env, P1, er.grow st1, (q.bind.at st1.s).imp fun vb q H2 P2 y st2 r2 => ⟨va, vb, P2, _, _, st2.t, r1.mono st2.s st2.g.1, r2, ?_⟩⟩⟩
    cases e1 : evCmp o va vb with
    | exc c => exact absurd e1 (evCmp_ne _ _ _ _)
    | bad => rw [e1] at q; exact q.elim
    | ok v =>
      rw [e1] at q
      obtain ⟨k, rfl⟩ := evCmp_bl _ _ _ e1
      have q : ResG CA H σ W _ (if k then (opd env ec (evE cl ec env)).bind fun w => evCmp o' vb w else .ok (.bl false)) := q
      intro H3 P3 z st3 r3
      have ez : z = .bl k := by
        rcases r3 with ⟨_, r3⟩ | ⟨r3, _⟩
        · cases r3; rfl
        · cases r3
      refine ⟨k, ez, ?_⟩
      cases k with
      | false =>
        exact q _ rfl H3 P3 ((st1.trans st2).trans st3)
      | true =>
        refine ⟨env, P3, (er.grow (st1.trans st2)).grow st3, ((ResG.bind q).at ((st1.trans st2).trans st3).s).imp fun vc q H4 P4 w st4 r4 => ⟨vb, vc, P4, _, _, st4.t, (r2.mono (st3.trans st4).s (st3.trans st4).g.1), r4, ?_⟩⟩
        cases e2 : evCmp o' vb vc with
        | exc c => exact absurd e2 (evCmp_ne _ _ _ _)
        | bad => rw [e2] at q; exact q.elim
        | ok v =>
          rw [e2] at q
          obtain ⟨k, rfl⟩ := evCmp_bl _ _ _ e2
          intro H5 P5 z st5 r5
          have ez : z = .bl k := by
            rcases r5 with ⟨_, r5⟩ | ⟨r5, _⟩
            · cases r5; rfl
            · cases r5
          rw [ez]
          exact q _ rfl H5 P5 ((((st1.trans st2).trans st3).trans st4).trans st5)
  have e1 : ∀ env, evE cl (.chn o o' ea eb ec) env = ((opd env ea (evE cl ea env)).bind fun x => (opd env eb (evE cl eb env)).bind fun y => (evCmp o x y).bind fun z => (toB z).bind fun k =>
        if k then (opd env ec (evE cl ec env)).bind fun w => evCmp o' y w else .ok (.bl false)).map (·, false) := fun env => by
    simp only [evE, R.map_bind]
    congr 1; funext x; congr 1; funext y; congr 1; funext z; congr 1; funext k
    cases k <;> simp [R.map_bind]
  have val : ∀ W, Takes X W → PE X (.Compare a [cpOf o, cpOf o'] [b, c] pos) (tE X.K CA cl H0 W (.chn o o' ea eb ec)) := fun W tk => (pe_chain (op_cmp hu o) (op_cmp hu o') (ha.opd W tk) (hb.opd W tk) (hc.opd W tk) hm).imp fun σ H Q q => by
    obtain ⟨env, P, er, q⟩ := q
    rw [e1] at q
    refine go er (q.map.imp fun v q k ev H' P' st => ?_)
    subst ev
    exact Out.here (Out.at q st) st.t (.bl k)
  refine ⟨val, fun W tk => (val W tk).imp fun σ H Q q => tO_of (by intro i z; cases z) q, fun W tk => PT.imp (pt_chain (op_cmp (CA := CA) hu o) (op_cmp (CA := CA) hu o') (ha.opd W tk) (hb.opd W tk) (hc.opd W tk) hm) fun σ H Q q => ?_⟩
  obtain ⟨env, P, er, q⟩ := q
  unfold evT at q
  rw [tE_nb (by intro i z; cases z), e1] at q
  rw [R.map_map, R.bind_map] at q
  refine go er (q.bind.imp fun v q k ev H' P' st => ?_)
  subst ev
  exact ⟨k, rfl, q H' P' st⟩
structure VB (CA : Nat → Option Addr) (cl : Nat → List Val → R (Val × Bool)) (H0 : Bs) (X : Cx) (op : BoolOp) (srcs : List Expr) (pos : Pos) (e : E) : Prop where
  val : ∀ W, Takes X W → PE X (.BoolOp op srcs pos) (tO X.K CA cl H0 W e)
  tst : ∀ W, Takes X W → PW X (.BoolOp op srcs pos) (tT X.K CA cl H0 W e)
theorem VB.one (op : BoolOp) (ha : V3 CA cl H0 X a ea) : VB CA cl H0 X op [a] pos ea := ⟨fun W tk => pe_one (ha.opd W tk), fun W tk => by
  cases op
  · exact pw_and1 (ha.tst W tk)
  · exact pw_or1 (ha.tst W tk)⟩
theorem toB_ok {v : Val} {k : Bool} (h : toB v = .ok k) : v = .bl k := by
  cases v <;> cases h; rfl
theorem toB_ne (v : Val) (c : Nat) : toB v ≠ .exc c := by
  intro h; cases v <;> cases h
theorem toB_res {H : Hp} {σ : L2.St} {W : WX} {α : Type} {post : α → Prop} {v : Val} {f : Bool → R α} (q : ResG CA H σ W post ((toB v).bind f)) : ∃ k, v = .bl k ∧ ResG CA H σ W post (f k) := by
  cases e : toB v with
  | ok k => rw [e] at q; exact ⟨k, toB_ok e, q⟩
  | exc c => exact absurd e (toB_ne _ _)
  | bad => rw [e] at q; exact q.elim
theorem VB.and {rest : List Expr} (ha : V3 CA cl H0 X a ea) (hb : VB CA cl H0 X .And (b :: rest) pos eb) : VB CA cl H0 X .And (a :: b :: rest) pos (.and ea eb) := by
  refine ⟨fun W tk => (pe_and (ha.opd W tk) (hb.val W tk)).imp fun σ H Q q => ?_, fun W tk => (pw_and (ha.tst W tk) (hb.tst W tk)).imp fun σ H Q q => ?_⟩
  · obtain ⟨env, P, er, q⟩ := q
    rw [tE_nb (by intro i z; cases z)] at q
    simp only [evE, R.map_bind] at q
    refine ⟨env, P, er, q.bind.imp fun va q H1 P1 x st1 r1 => ?_⟩
    obtain ⟨k, rfl, q⟩ := toB_res q
    refine ⟨k, r1.bl, ?_⟩
    cases k with
    | false => exact q H1 P1 _ st1 (.inl (.bl false))
    | true =>
      have q : ResG CA H σ W _ ((((opd env eb (evE cl eb env)).bind fun y => (toB y).bind fun k' => R.ok (Val.bl k', false))).map (·.1)) := q
      rw [R.map_bind] at q
      refine ⟨env, P1, er.grow st1, (q.bind.at st1.s).imp fun vb q H2 P2 y st2 r2 => ?_⟩
      rw [R.map_bind] at q
      obtain ⟨k, rfl, q⟩ := toB_res q
      rw [r2.bl]
      exact q H2 P2 _ (st1.trans st2) (.inl (.bl k))
  · obtain ⟨env, P, er, q⟩ := q
    unfold evT at q
    rw [tE_nb (by intro i z; cases z)] at q
    simp only [evE, R.map_bind, R.bind_assoc] at q
    show tT X.K CA cl H0 W ea σ H _
    refine ⟨env, P, er, ?_⟩
    unfold evT
    cases e1 : opd env ea (evE cl ea env) with
    | exc c => rw [e1] at q; exact q
    | bad => rw [e1] at q; exact q
    | ok va =>
      rw [e1] at q
      obtain ⟨k, rfl, q⟩ := toB_res (v := va) q
      intro H1 P1 st1
      cases k with
      | false =>
        show Q false H1
        exact q H1 P1 st1
      | true =>
        show tT X.K CA cl H0 W eb σ H1 Q
        refine ⟨env, P1, er.grow st1, ?_⟩
        unfold evT
        have q : ResG CA H σ W _ (((((opd env eb (evE cl eb env)).bind fun y => (toB y).bind fun k' => R.ok (Val.bl k', false))).map (·.1)).bind truth) := q
        rw [R.map_bind, R.bind_assoc] at q
        cases e2 : opd env eb (evE cl eb env) with
        | exc c => rw [e2] at q; exact fun H' C s e => q H' C (st1.s.trans s) e
        | bad => rw [e2] at q; exact q
        | ok vb =>
          rw [e2] at q
          have q : ResG CA H σ W _ ((((toB vb).bind fun k' => R.ok (Val.bl k', false)).map (·.1)).bind truth) := q
          rw [R.map_bind, R.bind_assoc] at q
          obtain ⟨k, rfl, q⟩ := toB_res (v := vb) q
          exact fun H' P' st => q H' P' (st1.trans st)
theorem VB.or {rest : List Expr} (ha : V3 CA cl H0 X a ea) (hb : VB CA cl H0 X .Or (b :: rest) pos eb) : VB CA cl H0 X .Or (a :: b :: rest) pos (.or ea eb) := by
  refine ⟨fun W tk => (pe_or (ha.opd W tk) (hb.val W tk)).imp fun σ H Q q => ?_, fun W tk => (pw_or (ha.tst W tk) (hb.tst W tk)).imp fun σ H Q q => ?_⟩
  · obtain ⟨env, P, er, q⟩ := q
    rw [tE_nb (by intro i z; cases z)] at q
    simp only [evE, R.map_bind] at q
    refine ⟨env, P, er, q.bind.imp fun va q H1 P1 x st1 r1 => ?_⟩
    obtain ⟨k, rfl, q⟩ := toB_res q
    refine ⟨k, r1.bl, ?_⟩
    cases k with
    | true => exact q H1 P1 _ st1 (.inl (.bl true))
    | false =>
      have q : ResG CA H σ W _ ((((opd env eb (evE cl eb env)).bind fun y => (toB y).bind fun k' => R.ok (Val.bl k', false))).map (·.1)) := q
      rw [R.map_bind] at q
      refine ⟨env, P1, er.grow st1, (q.bind.at st1.s).imp fun vb q H2 P2 y st2 r2 => ?_⟩
      rw [R.map_bind] at q
      obtain ⟨k, rfl, q⟩ := toB_res q
      rw [r2.bl]
      exact q H2 P2 _ (st1.trans st2) (.inl (.bl k))
  · obtain ⟨env, P, er, q⟩ := q
    unfold evT at q
    rw [tE_nb (by intro i z; cases z)] at q
    simp only [evE, R.map_bind, R.bind_assoc] at q
    show tT X.K CA cl H0 W ea σ H _
    refine ⟨env, P, er, ?_⟩
    unfold evT
    cases e1 : opd env ea (evE cl ea env) with
    | exc c => rw [e1] at q; exact q
    | bad => rw [e1] at q; exact q
    | ok va =>
      rw [e1] at q
      obtain ⟨k, rfl, q⟩ := toB_res (v := va) q
      intro H1 P1 st1
      cases k with
      | true =>
        show Q true H1
        exact q H1 P1 st1
      | false =>
        show tT X.K CA cl H0 W eb σ H1 Q
        refine ⟨env, P1, er.grow st1, ?_⟩
        unfold evT
        have q : ResG CA H σ W _ (((((opd env eb (evE cl eb env)).bind fun y => (toB y).bind fun k' => R.ok (Val.bl k', false))).map (·.1)).bind truth) := q
        rw [R.map_bind, R.bind_assoc] at q
        cases e2 : opd env eb (evE cl eb env) with
        | exc c => rw [e2] at q; exact fun H' C s e => q H' C (st1.s.trans s) e
        | bad => rw [e2] at q; exact q
        | ok vb =>
          rw [e2] at q
          have q : ResG CA H σ W _ ((((toB vb).bind fun k' => R.ok (Val.bl k', false)).map (·.1)).bind truth) := q
          rw [R.map_bind, R.bind_assoc] at q
          obtain ⟨k, rfl, q⟩ := toB_res (v := vb) q
          exact fun H' P' st => q H' P' (st1.trans st)
theorem VB.v3 {op : BoolOp} {srcs : List Expr} (hb : ∀ i, e ≠ .bor i) (h : VB CA cl H0 X op srcs pos e) (hn : ∀ env p, evE cl e env = .ok p → p.2 = false) : V3 CA cl H0 X (.BoolOp op srcs pos) e where
  val := fun W tk => (h.val W tk).imp fun σ H Q q => by
    obtain ⟨env, P, er, q⟩ := q
    refine ⟨env, P, er, ?_⟩
    rw [tE_nb hb]
    cases e1 : evE cl e env with
    | exc c => rw [e1] at q; exact q
    | bad => rw [e1] at q; exact q
    | ok p =>
      rw [e1] at q
      have hp := hn env p e1
      intro H' P' x st r
      rcases r with r | ⟨a, o, ⟨i, ei, _⟩, _⟩
      · exact q H' P' x st (.inl ⟨hp, r⟩)
      · exact absurd ei (hb i)
  opd := h.val
  tst := fun W tk => (h.tst W tk).pt
theorem v3_not (ha : V3 CA cl H0 X a ea) : V3 CA cl H0 X (.UnaryOp .Not a pos) (.not ea) := by
  have val : ∀ W, Takes X W → PE X (.UnaryOp .Not a pos) (tE X.K CA cl H0 W (.not ea)) := fun W tk => (pe_not (ha.opd W tk)).imp fun σ H Q q => by
    obtain ⟨env, P, er, q⟩ := q
    refine ⟨env, P, er, (ResG.bind q).imp fun va q H1 P1 x st1 r1 => ?_⟩
    obtain ⟨k, rfl, q⟩ := toB_res q
    exact ⟨k, r1.bl, (Out.at q st1).bl st1.t⟩
  refine ⟨val, fun W tk => (val W tk).imp fun σ H Q q => tO_of (by intro i z; cases z) q, fun W tk => PT.imp (pt_not (ha.tst W tk)) fun σ H Q q => ?_⟩
  obtain ⟨env, P, er, q⟩ := q
  unfold evT at q
  rw [tE_nb (by intro i z; cases z)] at q
  simp only [evE, R.map_bind, R.bind_assoc] at q
  refine ⟨env, P, er, ?_⟩
  unfold evT
  cases e1 : opd env ea (evE cl ea env) with
  | exc c => rw [e1] at q; exact q
  | bad => rw [e1] at q; exact q
  | ok va =>
    rw [e1] at q
    obtain ⟨k, rfl, q⟩ := toB_res (v := va) q
    exact fun H' P' st => q H' P' st
end
end G

set_option linter.all false
set_option maxHeartbeats 2000000
set_option maxRecDepth 100000
namespace G
open PySem PySem.Spec PyProof.Rows HT
open L2 hiding Takes XE CX takes_of passes_call ps_raise PMk MkP mk_of pmk_own passAt ps_try_as ps_try_many HdsOk
open L2N (Takes XE CX takes_of passes_call ps_raise PMk MkP mk_of pmk_own passAt)
theorem pt_ifx {X : Cx} {c a b : Expr} {pos : Pos} {tc ta tb : TT} (hc : PT X c tc) (ha : PT X a ta) (hb : PT X b tb) : PT X (.IfExp c a b pos) (fun σ H Q => tc σ H fun k H1 => if k = true then ta σ H1 Q else tb σ H1 Q) := ⟨fun pins s σ H Q I h => by
  show wpAny _ _ (do if ← isTrue c X.env (eval c X.env) then isTrue a X.env (eval a X.env) else isTrue b X.env (eval b X.env)) _ _ _
  refine wpAny_bind (thn (hc.run pins s σ H _ I h) fun k s1 ⟨H1, I1, q⟩ => ?_)
  cases k with
  | true => exact ha.run pins s1 σ H1 Q I1 q
  | false => exact hb.run pins s1 σ H1 Q I1 q⟩
section
variable {X : Cx} {CA : Nat → Option Addr} {cl : Nat → List Val → R (Val × Bool)} {H0 : Bs} {src a b c : Expr} {e ea eb ec : E} {pos : Pos}
theorem v3_ifx (na : ∀ i, ea ≠ .bor i) (nb : ∀ i, eb ≠ .bor i) (hc : V3 CA cl H0 X c ec) (ha : V3 CA cl H0 X a ea) (hb : V3 CA cl H0 X b eb) : V3 CA cl H0 X (.IfExp c a b pos) (.ifx ec ea eb) := by
  have go : ∀ {W : WX} {σ : L2.St} {H : Hp} {Q : VK} {env : Env} {P : Addr → Prop} (e : E), ER X.K CA H0 H P env σ → (∀ i, e ≠ .bor i) →
      ResG CA H σ W (fun v => OutO X.K CA H P (fun _ => False) v Q) ((evE cl e env).map (·.1)) → tE X.K CA cl H0 W e σ H Q := fun {W σ H Q env P} e er hn q => by
    refine ⟨env, P, er, q.map.imp fun p q H' P' x st r => ?_⟩
    obtain ⟨P3, st3, g3, r3⟩ := r.rv st
    exact q H' P3 x st3 (.inl r3)
  have opd : ∀ W, Takes X W → PE X (.IfExp c a b pos) (tO X.K CA cl H0 W (.ifx ec ea eb)) := fun W tk => (pe_ifExp (hc.tst W tk) (ha.val W tk) (hb.val W tk)).imp fun σ H Q q => by
    obtain ⟨env, P, er, q⟩ := q
    rw [tE_nb (by intro i z; cases z)] at q
    simp only [evE, R.map_bind] at q
    show tT X.K CA cl H0 W ec σ H _
    refine ⟨env, P, er, ?_⟩
    unfold evT
    rw [← R.bind_assoc] at q
    refine q.bind.imp fun k q H1 P1 st1 => ?_
    cases k with
    | true =>
      have q : ResG CA H σ W _ (((evE cl ea env).map fun p => (p.1, false)).map (·.1)) := q
      rw [R.map_map] at q
      refine go ea (er.grow st1) na ((q.at st1.s).imp fun v q H' P' x st r => ?_)
      exact q H' P' x (st1.trans st) (r.wid fun _ z => z.elim)
    | false =>
      have q : ResG CA H σ W _ (((evE cl eb env).map fun p => (p.1, false)).map (·.1)) := q
      rw [R.map_map] at q
      refine go eb (er.grow st1) nb ((q.at st1.s).imp fun v q H' P' x st r => ?_)
      exact q H' P' x (st1.trans st) (r.wid fun _ z => z.elim)
  refine ⟨fun W tk => (opd W tk).imp fun σ H Q q => ?_, opd, fun W tk => (pt_ifx (hc.tst W tk) (ha.tst W tk) (hb.tst W tk)).imp fun σ H Q q => ?_⟩
  · obtain ⟨env, P, er, q⟩ := q
    refine ⟨env, P, er, ?_⟩
    rw [tE_nb (by intro i z; cases z)]
    cases e1 : evE cl (.ifx ec ea eb) env with
    | exc c => rw [e1] at q; exact q
    | bad => rw [e1] at q; exact q
    | ok p =>
      rw [e1] at q
      have hp : p.2 = false := by
        simp only [evE] at e1
        obtain ⟨x, _, e1⟩ := R.bind_eq_ok e1
        obtain ⟨k, _, e1⟩ := R.bind_eq_ok e1
        cases k
        · have e1 : (evE cl eb env).map (fun p => (p.1, false)) = .ok p := e1
          cases e2 : evE cl eb env <;> rw [e2] at e1 <;> cases e1; rfl
        · have e1 : (evE cl ea env).map (fun p => (p.1, false)) = .ok p := e1
          cases e2 : evE cl ea env <;> rw [e2] at e1 <;> cases e1; rfl
      intro H' P' x st r
      rcases r with r | ⟨a, o, ⟨i, ei, _⟩, _⟩
      · exact q H' P' x st (.inl ⟨hp, r⟩)
      · cases ei
  · obtain ⟨env, P, er, q⟩ := q
    unfold evT at q
    rw [tE_nb (by intro i z; cases z)] at q
    simp only [evE, R.map_bind, R.bind_assoc] at q
    show tT X.K CA cl H0 W ec σ H _
    refine ⟨env, P, er, ?_⟩
    unfold evT
    rw [← R.bind_assoc] at q
    refine q.bind.imp fun k q H1 P1 st1 => ?_
    cases k with
    | true =>
      have q : ResG CA H σ W _ ((((evE cl ea env).map fun p => (p.1, false)).map (·.1)).bind truth) := q
      rw [R.map_map] at q
      refine ⟨env, P1, er.grow st1, ?_⟩
      unfold evT
      rw [tE_nb na]
      exact (q.at st1.s).imp fun v q H' P' st => q H' P' (st1.trans st)
    | false =>
      have q : ResG CA H σ W _ ((((evE cl eb env).map fun p => (p.1, false)).map (·.1)).bind truth) := q
      rw [R.map_map] at q
      refine ⟨env, P1, er.grow st1, ?_⟩
      unfold evT
      rw [tE_nb nb]
      exact (q.at st1.s).imp fun v q H' P' st => q H' P' (st1.trans st)
def tP (K : PySem.W.Frag) (CA : Nat → Option Addr) (cl : Nat → List Val → R (Val × Bool)) (H0 : Bs) (W : WX) (o : Option E) : TO := fun σ H Q => ∃ env P, ER K CA H0 H P env σ ∧ ResG CA H σ W (fun i => ∀ H' P', Step P H P' H' → Q i H') (evO cl o env)
theorem po_no {W : WX} : PO X none (tP X.K CA cl H0 W none) := ⟨fun pins s σ H Q I q => po_none.run pins s σ H Q I (by
  obtain ⟨env, P, er, q⟩ := q
  exact q H P (.refl er.trk))⟩
theorem po_so {W : WX} (tk : Takes X W) (ha : V3 CA cl H0 X a ea) : PO X (some a) (tP X.K CA cl H0 W (some ea)) := ⟨fun pins s σ H Q I q => (po_some (ha.opd W tk)).run pins s σ H Q I (by
  obtain ⟨env, P, er, q⟩ := q
  refine ⟨env, P, er, (ResG.bind q).imp fun v q H' P' x st r => ?_⟩
  cases v <;> first | exact q.elim | skip
  case int i =>
    cases r.int
    exact ⟨i, rfl, q H' P' st⟩)⟩
theorem evSlc_ne (l h : Option Int) (x : Val) (c : Nat) : evSlc l h x ≠ .exc c := by
  intro e
  unfold evSlc at e
  split at e <;> first | cases e | (split at e <;> cases e)
theorem v3_slc {lo hi : Option Expr} {el eh : Option E} {p2 : Pos} (ha : V3 CA cl H0 X a ea) (hl : ∀ W, Takes X W → PO X lo (tP X.K CA cl H0 W el)) (hh : ∀ W, Takes X W → PO X hi (tP X.K CA cl H0 W eh)) : V3 CA cl H0 X (.Subscript a (.Slice lo hi none p2) pos) (.slc ea el eh) :=
  .of (by intro i z; cases z) rfl fun W tk => (pe_slice sl_any (ha.opd W tk) (hl W tk) (hh W tk)).imp fun σ H Q q => by
    obtain ⟨env, P, er, q⟩ := q
    refine ⟨env, P, er, (ResG.bind q).imp fun v q H1 P1 x st1 r => ⟨env, P1, er.grow st1, (q.bind.at st1.s).imp fun l q H2 P2 st2 => ⟨env, P2, (er.grow st1).grow st2, (q.bind.at (st1.trans st2).s).imp fun h q H3 P3 st3 => ⟨v, P3, _, st3.t, r.mono (st2.trans st3).s (st2.trans st3).g.1, ?_⟩⟩⟩⟩
    have q := q.map
    cases e1 : evSlc l h v with
    | ok w => rw [e1] at q; exact Out.at q ((st1.trans st2).trans st3)
    | exc c => exact absurd e1 (evSlc_ne _ _ _ _)
    | bad => rw [e1] at q; exact q.elim
theorem evRev_ne (x : Val) (c : Nat) : evRev x ≠ .exc c := by
  intro e
  unfold evRev at e
  split at e <;> cases e
theorem v3_rev {k : Nat} {p1 p2 p3 : Pos} (ha : V3 CA cl H0 X a ea) : V3 CA cl H0 X (.Subscript a (.Slice none none (some (.UnaryOp .USub (.Constant (.int 1) k p1) p2)) p3) pos) (.rev ea) :=
  .of (by intro i z; cases z) rfl fun W tk => (pe_revA (CA := CA) (ha.opd W tk)).imp fun σ H Q q => by
    obtain ⟨env, P, er, q⟩ := q
    refine ⟨env, P, er, (ResG.bind q).imp fun v q H1 P1 x st1 r => ⟨v, P1, _, st1.t, r, ?_⟩⟩
    have q := q.map
    cases e1 : evRev v with
    | ok w => rw [e1] at q; exact Out.at q st1
    | exc c => exact absurd e1 (evRev_ne _ _)
    | bad => rw [e1] at q; exact q.elim
abbrev Vs3 (CA : Nat → Option Addr) (cl : Nat → List Val → R (Val × Bool)) (H0 : Bs) (X : Cx) : List Expr → List E → Prop := Paired fun src e => okSrc src = true ∧ V3 CA cl H0 X src e
theorem pa_es {W : WX} (tk : Takes X W) : ∀ {srcs : List Expr} {es : List E}, Vs3 CA cl H0 X srcs es → PA X srcs (tEs X.K CA cl H0 W es)
  | _, _, .nil => PA.imp pa_nil fun σ H Q q => by
    obtain ⟨env, P, er, q⟩ := q
    exact q H P [] (.refl er.trk) .nil
  | _, _, .cons (l₁ := srcs) (l₂ := es) ⟨hs, h⟩ t => (pa_cons (h.val W tk) (pa_es tk t) (okSrc.st hs _ _)).imp fun σ H Q q => by
    obtain ⟨env, P, er, q⟩ := q
    refine ⟨env, P, er, (ResG.bind q).imp fun p q H1 P1 x st1 r => ?_⟩
    obtain ⟨P3, st3, g3, r3⟩ := r.rv st1
    refine ⟨env, P3, er.grow st3, (q.bind.at st1.s).imp fun vs q H2 P2 xs st2 r2 => ?_⟩
    exact q H2 P2 _ (st3.trans st2) (.cons (r3.mono st2.s st2.g.1) r2)
theorem pa_as {W : WX} (tk : Takes X W) : ∀ {srcs : List Expr} {es : List E}, Vs3 CA cl H0 X srcs es → PA X srcs (tAs X.K CA cl H0 W es)
  | _, _, .nil => PA.imp pa_nil fun σ H Q q => by
    obtain ⟨env, P, er, q⟩ := q
    exact q H P [] (.refl er.trk) .nil
  | _, _, .cons (l₁ := srcs) (l₂ := es) ⟨hs, h⟩ t => (pa_cons (h.opd W tk) (pa_as tk t) (okSrc.st hs _ _)).imp fun σ H Q q => by
    obtain ⟨env, P, er, q⟩ := q
    refine ⟨env, P, er, (ResG.bind q).imp fun v q H1 P1 x st1 r => ⟨env, P1, er.grow st1, (q.bind.at st1.s).imp fun vs q H2 P2 xs st2 r2 => ?_⟩⟩
    exact q H2 P2 _ (st1.trans st2) (.cons ((r.mono st2.s st2.g.1).wid fun a z => ⟨_, List.mem_cons_self, z⟩) (r2.mono (Same.refl _) (fun _ z => z) fun a ⟨e, he, z⟩ => ⟨e, List.mem_cons_of_mem _ he, z⟩))
theorem star_any {srcs : List Expr} {es : List E} (h : Vs3 CA cl H0 X srcs es) (env : PySem.Env) : (backTo pos (starEach srcs env)).any (·.1) = false := by
  induction h with
  | nil => rfl
  | cons h t ih =>
    rw [okSrc.st h.1]
    show (backTo pos (starEach _ env)).any (·.1) = false
    exact ih
theorem v3_tup {srcs : List Expr} {es : List E} {k : Nat} (hl : lenOk srcs.length = true) (h : Vs3 CA cl H0 X srcs es) : V3 CA cl H0 X (.Tuple srcs k pos) (.tup es) :=
  .of (by intro i z; cases z) rfl fun W tk => (pe_tup (pa_es tk h)).imp fun σ H Q q => by
    obtain ⟨env, P, er, q⟩ := q
    have q := ResG.bind q
    refine ⟨env, P, er, ?_⟩
    cases e1 : evEs cl es env with
    | exc c => rw [e1] at q; exact q
    | bad => rw [e1] at q; exact q
    | ok vs =>
      rw [e1] at q
      intro H1 P1 xs st1 r
      have el : xs.length = srcs.length := by
        rw [← r.length]
        have : ∀ (srcs : List Expr) (es : List E) (vs : List Val), Vs3 CA cl H0 X srcs es → evEs cl es env = .ok vs → vs.length = srcs.length := by
          intro srcs es vs h
          induction h generalizing vs with
          | nil => intro e; cases e; rfl
          | cons h t ih =>
            intro e
            obtain ⟨p, _, e⟩ := R.bind_eq_ok e
            obtain ⟨ws, e2, e⟩ := R.bind_eq_ok e
            cases e
            rw [List.length_cons, List.length_cons, ih ws e2]
        exact this srcs es vs h e1
      exact ⟨by rw [el]; exact LIM_le hl, fun p hp => (Out.at q st1).newT st1.t r p hp⟩
theorem v3_lst {srcs : List Expr} {es : List E} (hl : lenOk srcs.length = true) (h : Vs3 CA cl H0 X srcs es) : V3 CA cl H0 X (.List srcs pos) (.lst es) :=
  .of (by intro i z; cases z) rfl fun W tk => (pe_lst (pa_es tk h)).imp fun σ H Q q => by
    obtain ⟨env, P, er, q⟩ := q
    have q := ResG.bind q
    refine ⟨env, P, er, ?_⟩
    cases e1 : evEs cl es env with
    | exc c => rw [e1] at q; exact q
    | bad => rw [e1] at q; exact q
    | ok vs =>
      rw [e1] at q
      intro H1 P1 xs st1 r
      have el : xs.length = srcs.length := by
        rw [← r.length]
        have : ∀ (srcs : List Expr) (es : List E) (vs : List Val), Vs3 CA cl H0 X srcs es → evEs cl es env = .ok vs → vs.length = srcs.length := by
          intro srcs es vs h
          induction h generalizing vs with
          | nil => intro e; cases e; rfl
          | cons h t ih =>
            intro e
            obtain ⟨p, _, e⟩ := R.bind_eq_ok e
            obtain ⟨ws, e2, e⟩ := R.bind_eq_ok e
            cases e
            rw [List.length_cons, List.length_cons, ih ws e2]
        exact this srcs es vs h e1
      exact ⟨by rw [el]; exact LIM_le hl, fun p hp => (Out.at q st1).newL st1.t r p hp⟩
def spF (K : PySem.W.Frag) (CA : Nat → Option Addr) (cl : Nat → List Val → R (Val × Bool)) (f np : Nat) : Sp := fun vs H Q E => ∃ (P : Addr → Prop) (args : List Val), Trk P H ∧ RVs K CA H P args vs ∧ vs.length = np ∧
  match cl f args with
  | .ok p => if newF f = true then OutN K CA H p Q else Out K CA H P p Q
  | .exc c => ∀ H' C, Same H H' → CA c = some C → E (.ref C) none H'
  | .bad => False
theorem spF_ok {K : PySem.W.Frag} {CA : Nat → Option Addr} {H : Hp} {P : Addr → Prop} {p : Val × Bool} {Q : VK} {f : Nat} (o : Out K CA H P p Q) (t : Trk P H) : if newF f = true then OutN K CA H p Q else Out K CA H P p Q := by
  split
  · exact o.new t
  · exact o
structure FnF (X : Cx) (CA : Nat → Option Addr) (cl : Nat → List Val → R (Val × Bool)) (x : Str) (f np : Nat) : Prop where
  ns : ∀ ad, X.mg x = some (.ref ad) → PySem.W.nsIn X.K mainGlobals x = some (some (.ref ad))
  ex : ∃ (k : Nat) (ad : Addr) (fd : FuncData) (ps : List Str), ps.length = np ∧ X.mg x = some (.ref ad) ∧ PySem.W.keepIn X.K (.ref ad) = true ∧ Binds X.K fd ps [] ∧ FnOk X.prog X.w X.K X.mg X.base (L2N.CX X.prog X.w) k ad fd ps (spF X.K CA cl f np) ∧ Room k X.A
theorem evAs_len {env : Env} : ∀ {es : List E} {vs : List Val}, evAs cl es env = .ok vs → vs.length = es.length
  | [], _, e => by cases e; rfl
  | e :: es, vs, h => by
    obtain ⟨p, _, h⟩ := R.bind_eq_ok h
    obtain ⟨ws, e2, h⟩ := R.bind_eq_ok h
    cases h
    rw [List.length_cons, List.length_cons, evAs_len e2]
theorem lent_no {env : Env} {σ : L2.St} : ∀ {es : List E} {a : Addr}, lent env es = false → ¬ LAs env σ es a := by
  intro es
  induction es with
  | nil => intro a _ ⟨e, he, _⟩; cases he
  | cons e es ih =>
    intro a h ⟨e', he, i, ei, ⟨v, hv⟩, hσ⟩
    have h2 : lent env es = false := by
      cases e <;> first | exact h | (simp only [lent, Bool.or_eq_false_iff] at h; exact h.2)
    rcases List.mem_cons.mp he with rfl | he
    · subst ei
      simp only [lent, hv, Bool.or_eq_false_iff] at h
      exact absurd h.1 (by decide)
    · exact ih h2 ⟨e', he, i, ei, ⟨v, hv⟩, hσ⟩
theorem RVos.rvs {K : PySem.W.Frag} {H : Hp} {P L : Addr → Prop} (hL : ∀ a, ¬ L a) : ∀ {vs : List Val} {xs : List V}, RVos K CA H P L vs xs → RVs K CA H P vs xs
  | _, _, .nil => .nil
  | _, _, .cons r t => .cons (r.elim id fun ⟨a, _, h, _⟩ => absurd h (hL a)) (RVos.rvs hL t)
theorem RVos.rvU {K : PySem.W.Frag} {H : Hp} {P L : Addr → Prop} : ∀ {vs : List Val} {xs : List V}, RVos K CA H P L vs xs → RVs K CA H (fun a => P a ∨ L a) vs xs
  | _, _, .nil => .nil
  | _, _, .cons r t => .cons r.rv (RVos.rvU t)
theorem LAs.trk {K : PySem.W.Frag} {H : Hp} {P : Addr → Prop} {env : Env} {σ : L2.St} {es : List E} (er : ER K CA H0 H P env σ) : Trk (LAs env σ es) H := fun a ⟨e, he, i, ei, o⟩ => by
  obtain ⟨v, o, _, _, h, _, _, w⟩ := o.at er
  exact ⟨o, h, w.mt⟩
theorem pe_call0S {CX : CXT} {k : Nat} {f : Addr} {fd : FuncData} {ps : List Str} {sp : Sp} {E : L2.St → XK} {x : Str} {p : Pos} (F : FnOk X.prog X.w X.K X.mg X.base CX k f fd ps sp) (hr : Room k X.A) (hg : Gl X x) (hm : X.mg x = some (.ref f)) (hk : PySem.W.keepIn X.K (.ref f) = true) (hb : Binds X.K fd ps []) (hx : ∀ σ, PassesAt CX X σ (E σ))
    (hdb : (x == ("__debug__" : Str)) = false) : PE X (.Call (.Name x p) [] [] pos) (tCallS sp E tNil) := by
  refine ⟨fun pins s σ H Q I h => ?_⟩
  refine wpAny_Call_Name_kw (ld_glob I hg hm ?_ hdb)
  exact PySem.W.callWith_K0 I.kIn hk (run_fnS (us := []) F hr hb (hx σ) I .nil h)
theorem backOk_rf {K : PySem.W.Frag} {H H' : Hp} {P P' : Addr → Prop} {p : Val × Bool} {x : V} (hb : backOk p = true) (r : RF K CA H H' P' p x) (hP : ∀ a, P a → P' a) : RF K CA H H' P p x := by
  obtain ⟨v, fr⟩ := p
  unfold backOk at hb
  rw [Bool.or_eq_true] at hb
  rcases r with ⟨e, r⟩ | ⟨e, a, o, e2, h1, h2, h3, h4⟩
  · rcases hb with hb | hb
    · exact .inl ⟨e, RV.noL v hb r⟩
    · dsimp only at e
      rw [e, Bool.false_and] at hb; cases hb
  · dsimp only at h4 hb
    cases h4 with
    | @lst vs xs h4 =>
      rcases hb with hb | hb
      · cases hb
      · rw [Bool.and_eq_true] at hb
        exact .inr ⟨e, a, _, e2, h1, h2, fun q => h3 (hP a q), .lst (RVs.noL vs hb.2 h4)⟩
    | dct k =>
      rcases hb with hb | hb
      · cases hb
      · rw [Bool.and_eq_true] at hb
        cases hb.2
    | dk n r =>
      rcases hb with hb | hb
      · cases hb
      · rw [Bool.and_eq_true] at hb
        cases hb.2
theorem v3_fnv {x : Str} {k np : Nat} {p : Pos} (F : FnF X CA cl x k np) (hn : fnName k = x) (hg : Gl X x) (hdb : (x == ("__debug__" : Str)) = false) : V3 CA cl H0 X (.Name x p) (.fnv k) := by
  obtain ⟨_, ad, _, _, _, hm, _⟩ := F.ex
  have ns := F.ns ad hm
  rw [← hn] at ns
  refine .of (by intro i z; cases z) rfl fun W _ => (pe_glob hg hm (show RelV (.ref ad) (.ref ad) from rfl) hdb).imp fun σ H Q q => ?_
  obtain ⟨env, P, er, q⟩ := q
  exact Out.here q er.trk (.fn ns)
def tCallG (X : Cx) (CX : CXT) (i : Nat) (E : L2.St → XK) (t : TA) : TE := fun σ H Q => ∃ (f k : Nat) (fd : FuncData) (ps : List Str) (sp : Sp), σ[i]? = some (some (.ref f)) ∧ FnOk X.prog X.w X.K X.mg X.base CX k f fd ps sp ∧ Room k X.A ∧ PySem.W.keepIn X.K (.ref f) = true ∧ Binds X.K fd ps [] ∧ t σ H fun vs H1 => sp vs H1 Q (E σ)
theorem pe_callG {CX : CXT} {i : Nat} {E : L2.St → XK} {x : Str} {p : Pos} {e : Expr} {es : List Expr} {t : TA} (hN : X.N[i]? = some x) (hv : Vis X.env.scope x) (hx : ∀ σ, PassesAt CX X σ (E σ)) (ha : PA X (e :: es) t)
    (hdb : (x == ("__debug__" : Str)) = false) (hcd : (x == ("__classdict__" : Str)) = false)
    (he : starEach (e :: es) X.env = (false, eval e X.env) :: starEach es X.env) (hpl : (backTo pos (starEach es X.env)).any (·.1) = false) : PE X (.Call (.Name x p) (e :: es) [] pos) (tCallG X CX i E t) := by
  refine ⟨fun pins s σ H Q I h => ?_⟩
  obtain ⟨f, k, fd, ps, sp, hs, F, hr, hk, hb, ht⟩ := h
  refine wpAny_Call_Name_kw (thn ((pe_var (pos := p) hN hv hdb hcd).run pins s σ H (fun v H1 => v = .ref f ∧ H1 = H) I ⟨.ref f, hs, rfl, rfl⟩) fun u s1 ⟨v, H1, I1, r1, q1⟩ => ?_)
  obtain ⟨rfl, rfl⟩ := q1
  cases r1
  refine PySem.W.callWith_K (h₀ := X.base) I.ok.mod.kin hk (thn (ha.run pos pins s1 σ _ _ I1 ht) fun us s2 ⟨vs, H2, I2, r, q⟩ => ⟨I2.kIn, ?_⟩) he hpl
  exact run_fnS F hr hb (hx σ) I2 r q
theorem v3_call {x : Str} {f np : Nat} {p : Pos} {srcs : List Expr} {es : List E} (F : FnF X CA cl x f np) (hn : srcs.length = np) (hg : Gl X x) (hdb : (x == ("__debug__" : Str)) = false) (h : Vs3 CA cl H0 X srcs es) : V3 CA cl H0 X (.Call (.Name x p) srcs [] pos) (.call f es) := by
  refine .of (by intro i z; cases z) rfl fun W tk => ?_
  obtain ⟨k, ad, fd, ps, hps, hm, hk, hb, hF, hr⟩ := F.ex
  have pe : PE X (.Call (.Name x p) srcs [] pos) (tCallS (spF X.K CA cl f np) (WE W) (tAs X.K CA cl H0 W es)) := by
    cases h with
    | nil =>
      refine (pe_call0S hF hr hg hm hk hb (fun σ => passAt tk σ) hdb).imp fun σ H Q q => ?_
      obtain ⟨env, P, er, q⟩ := q
      exact q H P [] (.refl er.trk) .nil
    | cons h t => exact pe_callS hF hr hg hm hk hb (fun σ => passAt tk σ) (pa_as tk (.cons h t)) hdb (okSrc.st h.1 _ _) (star_any t _)
  refine pe.imp fun σ H Q q => ?_
  obtain ⟨env, P, er, q⟩ := q
  have q := ResG.bind q
  refine ⟨env, P, er, ?_⟩
  cases e0 : evAs cl es env with
  | exc c => rw [e0] at q; exact q
  | bad => rw [e0] at q; exact q
  | ok vs =>
    rw [e0] at q
    intro H1 P1 xs st1 r
    have q : ResG CA H σ W (fun p => Out X.K CA H P p Q) ((cl f vs).bind fun p => if lent env es && !(backOk p || newF f) then .bad else .ok p) := q
    have q := q.bind.at st1.s
    have len : xs.length = np := by
      rw [← r.length, evAs_len e0, ← h.length, hn]
    cases hl : lent env es with
    | false =>
      have r2 := RVos.rvs (fun a => lent_no hl) r
      refine ⟨P1, vs, st1.t, r2, len, ?_⟩
      cases e1 : cl f vs with
      | exc c => rw [e1] at q; exact q
      | bad => rw [e1] at q; exact q
      | ok p =>
        rw [e1] at q
        have q : ResG CA H σ W (fun p => Out X.K CA H P p Q) (if lent env es && !(backOk p || newF f) then .bad else .ok p) := q
        rw [hl, Bool.false_and, if_neg Bool.false_ne_true] at q
        exact spF_ok (Out.at q st1) st1.t
    | true =>
      refine ⟨fun a => P1 a ∨ LAs env σ es a, vs, fun a z => z.elim (st1.t a) (LAs.trk (er.grow st1) a), RVos.rvU r, len, ?_⟩
      cases e1 : cl f vs with
      | exc c => rw [e1] at q; exact q
      | bad => rw [e1] at q; exact q
      | ok p =>
        rw [e1] at q
        have q : ResG CA H σ W (fun p => Out X.K CA H P p Q) (if lent env es && !(backOk p || newF f) then .bad else .ok p) := q
        cases hnf : newF f with
        | true =>
          rw [hl, hnf, Bool.or_true, if_neg (by decide)] at q
          exact (if_pos rfl).mpr ((Out.at q st1).new st1.t)
        | false =>
        refine (if_neg Bool.false_ne_true).mpr ?_
        rw [hnf, Bool.or_false] at q
        cases hbk : backOk p with
        | false => rw [hl, hbk, if_pos (by decide)] at q; exact q.elim
        | true =>
          rw [hl, hbk, if_neg (by decide)] at q
          intro H' P' y st2 r2
          exact (Out.at q st1) H' P1 y ⟨st2.s, .refl, fun a z => by
            obtain ⟨ys, e, m⟩ := st1.t a z
            exact ⟨ys, st2.s _ _ e, m⟩⟩ (backOk_rf hbk r2 fun a z => st2.g.1 a (.inl z))
theorem v3_cal {x : Str} {i np : Nat} {ks : List Nat} {p : Pos} {srcs : List Expr} {es : List E} (F : ∀ k ∈ ks, FnF X CA cl (fnName k) k np) (hne : srcs ≠ []) (hn : srcs.length = np) (hN : X.N[i]? = some x) (hv : Vis X.env.scope x) (hdb : (x == ("__debug__" : Str)) = false) (hcd : (x == ("__classdict__" : Str)) = false) (h : Vs3 CA cl H0 X srcs es) : V3 CA cl H0 X (.Call (.Name x p) srcs [] pos) (.cal i ks es) := by
  refine .of (by intro i z; cases z) rfl fun W tk => ?_
  have pe : PE X (.Call (.Name x p) srcs [] pos) (tCallG X (L2N.CX X.prog X.w) i (WE W) (tAs X.K CA cl H0 W es)) := by
    cases h with
    | nil => exact absurd rfl hne
    | cons h t => exact pe_callG hN hv (fun σ => passAt tk σ) (pa_as tk (.cons h t)) hdb hcd (okSrc.st h.1 _ _) (star_any t _)
  refine pe.imp fun σ H Q q => ?_
  obtain ⟨env, P, er, q⟩ := q
  have q : ResG CA H σ W (fun p => Out X.K CA H P p Q) ((fnAt env i ks).bind fun k => (evAs cl es env).bind fun vs => evCall cl env k es vs) := q
  cases e9 : fnAt env i ks with
  | exc c =>
    exfalso
    unfold fnAt at e9
    split at e9
    · split at e9 <;> cases e9
    · cases e9
  | bad => rw [e9] at q; exact q.elim
  | ok f =>
  rw [e9] at q
  have q : ResG CA H σ W (fun p => Out X.K CA H P p Q) ((evAs cl es env).bind fun vs => evCall cl env f es vs) := q
  have hlk : look env i = .ok (.fn f) ∧ f ∈ ks := by
    unfold fnAt at e9
    split at e9
    · rename_i k ek
      split at e9
      · rename_i hk
        cases e9
        exact ⟨ek, hk⟩
      · cases e9
    · cases e9
  obtain ⟨e8, hfk⟩ := hlk
  have Ff := F f hfk
  obtain ⟨k, ad, fd, ps, hps, hm, hk, hb, hF, hr⟩ := Ff.ex
  have hσ : σ[i]? = some (some (.ref ad)) := by
    unfold look at e8
    split at e8
    · rename_i v o he
      cases e8
      cases o with
      | false =>
        obtain ⟨y, h1, h2⟩ := er.shr i _ he
        cases h2 with
        | fn e =>
          rw [Ff.ns ad hm] at e
          cases e
          exact h1
      | true =>
        obtain ⟨_, _, _, _, _, _, z⟩ := er.own i _ he
        cases z
    · cases e8
  have q := ResG.bind q
  refine ⟨ad, k, fd, ps, _, hσ, hF, hr, hk, hb, ?_⟩
  refine ⟨env, P, er, ?_⟩
  cases e0 : evAs cl es env with
  | exc c => rw [e0] at q; exact q
  | bad => rw [e0] at q; exact q
  | ok vs =>
    rw [e0] at q
    intro H1 P1 xs st1 r
    have q : ResG CA H σ W (fun p => Out X.K CA H P p Q) ((cl f vs).bind fun p => if lent env es && !(backOk p || newF f) then .bad else .ok p) := q
    have q := q.bind.at st1.s
    have len : xs.length = np := by
      rw [← r.length, evAs_len e0, ← h.length, hn]
    cases hl : lent env es with
    | false =>
      have r2 := RVos.rvs (fun a => lent_no hl) r
      refine ⟨P1, vs, st1.t, r2, len, ?_⟩
      cases e1 : cl f vs with
      | exc c => rw [e1] at q; exact q
      | bad => rw [e1] at q; exact q
      | ok p =>
        rw [e1] at q
        have q : ResG CA H σ W (fun p => Out X.K CA H P p Q) (if lent env es && !(backOk p || newF f) then .bad else .ok p) := q
        rw [hl, Bool.false_and, if_neg Bool.false_ne_true] at q
        exact spF_ok (Out.at q st1) st1.t
    | true =>
      refine ⟨fun a => P1 a ∨ LAs env σ es a, vs, fun a z => z.elim (st1.t a) (LAs.trk (er.grow st1) a), RVos.rvU r, len, ?_⟩
      cases e1 : cl f vs with
      | exc c => rw [e1] at q; exact q
      | bad => rw [e1] at q; exact q
      | ok p =>
        rw [e1] at q
        have q : ResG CA H σ W (fun p => Out X.K CA H P p Q) (if lent env es && !(backOk p || newF f) then .bad else .ok p) := q
        cases hnf : newF f with
        | true =>
          rw [hl, hnf, Bool.or_true, if_neg (by decide)] at q
          exact (if_pos rfl).mpr ((Out.at q st1).new st1.t)
        | false =>
        refine (if_neg Bool.false_ne_true).mpr ?_
        rw [hnf, Bool.or_false] at q
        cases hbk : backOk p with
        | false => rw [hl, hbk, if_pos (by decide)] at q; exact q.elim
        | true =>
          rw [hl, hbk, if_neg (by decide)] at q
          intro H' P' y st2 r2
          exact (Out.at q st1) H' P1 y ⟨st2.s, .refl, fun a z => by
            obtain ⟨ys, e, m⟩ := st1.t a z
            exact ⟨ys, st2.s _ _ e, m⟩⟩ (backOk_rf hbk r2 fun a z => st2.g.1 a (.inl z))
theorem args_call {f np : Nat} {k : Nat} {ad : Addr} {fd : FuncData} {ps : List Str} {srcs : List Expr} {es : List E} {W : WX} {σ : L2.St} {H : Hp} {P : Addr → Prop} {Q : VK} {env : Env} (hn : srcs.length = np) (h : Vs3 CA cl H0 X srcs es) (er : ER X.K CA H0 H P env σ)
    (q : ResG CA H σ W (fun vs => ResG CA H σ W (fun p => Out X.K CA H P p Q) (evCall cl env f es vs)) (evAs cl es env)) : tAs X.K CA cl H0 W es σ H fun vs H1 => spF X.K CA cl f np vs H1 Q (WE W σ) := by
  refine ⟨env, P, er, ?_⟩
  cases e0 : evAs cl es env with
  | exc c => rw [e0] at q; exact q
  | bad => rw [e0] at q; exact q
  | ok vs =>
    rw [e0] at q
    intro H1 P1 xs st1 r
    have q : ResG CA H σ W (fun p => Out X.K CA H P p Q) ((cl f vs).bind fun p => if lent env es && !(backOk p || newF f) then .bad else .ok p) := q
    have q := q.bind.at st1.s
    have len : xs.length = np := by
      rw [← r.length, evAs_len e0, ← h.length, hn]
    cases hl : lent env es with
    | false =>
      have r2 := RVos.rvs (fun a => lent_no hl) r
      refine ⟨P1, vs, st1.t, r2, len, ?_⟩
      cases e1 : cl f vs with
      | exc c => rw [e1] at q; exact q
      | bad => rw [e1] at q; exact q
      | ok p =>
        rw [e1] at q
        have q : ResG CA H σ W (fun p => Out X.K CA H P p Q) (if lent env es && !(backOk p || newF f) then .bad else .ok p) := q
        rw [hl, Bool.false_and, if_neg Bool.false_ne_true] at q
        exact spF_ok (Out.at q st1) st1.t
    | true =>
      refine ⟨fun a => P1 a ∨ LAs env σ es a, vs, fun a z => z.elim (st1.t a) (LAs.trk (er.grow st1) a), RVos.rvU r, len, ?_⟩
      cases e1 : cl f vs with
      | exc c => rw [e1] at q; exact q
      | bad => rw [e1] at q; exact q
      | ok p =>
        rw [e1] at q
        have q : ResG CA H σ W (fun p => Out X.K CA H P p Q) (if lent env es && !(backOk p || newF f) then .bad else .ok p) := q
        cases hnf : newF f with
        | true =>
          rw [hl, hnf, Bool.or_true, if_neg (by decide)] at q
          exact (if_pos rfl).mpr ((Out.at q st1).new st1.t)
        | false =>
        refine (if_neg Bool.false_ne_true).mpr ?_
        rw [hnf, Bool.or_false] at q
        cases hbk : backOk p with
        | false => rw [hl, hbk, if_pos (by decide)] at q; exact q.elim
        | true =>
          rw [hl, hbk, if_neg (by decide)] at q
          intro H' P' y st2 r2
          exact (Out.at q st1) H' P1 y ⟨st2.s, .refl, fun a z => by
            obtain ⟨ys, e, m⟩ := st1.t a z
            exact ⟨ys, st2.s _ _ e, m⟩⟩ (backOk_rf hbk r2 fun a z => st2.g.1 a (.inl z))
def tCallX (X : Cx) (CX : CXT) (E : L2.St → XK) (tf : TE) (t : TA) : TE := fun σ H Q => tf σ H fun v H1 => ∃ (f k : Nat) (fd : FuncData) (ps : List Str) (sp : Sp), v = .ref f ∧ FnOk X.prog X.w X.K X.mg X.base CX k f fd ps sp ∧ Room k X.A ∧ PySem.W.keepIn X.K (.ref f) = true ∧ Binds X.K fd ps [] ∧ t σ H1 fun vs H2 => sp vs H2 Q (E σ)
theorem arm_call_sub (o i : Expr) (p : Pos) (args : List Expr) (keywords : List Keyword) (pos : Pos) (env : PySem.Env) : eval (.Call (.Subscript o i p) args keywords pos) env = (do
    callWith pos (← eval (.Subscript o i p) env) [] (backTo pos (starEach args env)) (backToKw pos (keywordEach keywords env))) := rfl
theorem pe_callX {CX : CXT} {E : L2.St → XK} {o i : Expr} {p : Pos} {e : Expr} {es : List Expr} {tf : TE} {t : TA} (hf : PE X (.Subscript o i p) tf) (hx : ∀ σ, PassesAt CX X σ (E σ)) (ha : PA X (e :: es) t)
    (he : starEach (e :: es) X.env = (false, eval e X.env) :: starEach es X.env) (hpl : (backTo pos (starEach es X.env)).any (·.1) = false) : PE X (.Call (.Subscript o i p) (e :: es) [] pos) (tCallX X CX E tf t) := by
  refine ⟨fun pins s σ H Q I h => ?_⟩
  rw [arm_call_sub]
  refine wpAny_bind (thn (hf.run pins s σ H _ I h) fun u s1 ⟨v, H1, I1, r1, f, k, fd, ps, sp, ev, F, hr, hk, hb, ht⟩ => ?_)
  subst ev
  cases r1
  refine PySem.W.callWith_K (h₀ := X.base) I1.ok.mod.kin hk (thn (ha.run pos pins s1 σ _ _ I1 ht) fun us s2 ⟨vs, H2, I2, r, q⟩ => ⟨I2.kIn, ?_⟩) he hpl
  exact run_fnS F hr hb (hx σ) I2 r q
theorem v3_cax {np : Nat} {ks : List Nat} {o i : Expr} {p : Pos} {ef : E} {srcs : List Expr} {es : List E} (F : ∀ k ∈ ks, FnF X CA cl (fnName k) k np) (hne : srcs ≠ []) (hn : srcs.length = np) (hf : V3 CA cl H0 X (.Subscript o i p) ef) (h : Vs3 CA cl H0 X srcs es) : V3 CA cl H0 X (.Call (.Subscript o i p) srcs [] pos) (.cax ef ks es) := by
  refine .of (by intro i z; cases z) rfl fun W tk => ?_
  have pe : PE X (.Call (.Subscript o i p) srcs [] pos) (tCallX X (L2N.CX X.prog X.w) (WE W) (tE X.K CA cl H0 W ef) (tAs X.K CA cl H0 W es)) := by
    cases h with
    | nil => exact absurd rfl hne
    | cons h t => exact pe_callX (hf.val W tk) (fun σ => passAt tk σ) (pa_as tk (.cons h t)) (okSrc.st h.1 _ _) (star_any t _)
  refine pe.imp fun σ H Q q => ?_
  obtain ⟨env, P, er, q⟩ := q
  have q : ResG CA H σ W (fun p => Out X.K CA H P p Q) ((evE cl ef env).bind fun p => (fnOf ks p.1).bind fun k => (evAs cl es env).bind fun vs => evCall cl env k es vs) := q
  refine ⟨env, P, er, q.bind.imp fun pv q H1 P1 x st1 r => ?_⟩
  cases e9 : fnOf ks pv.1 with
  | exc c =>
    exfalso
    unfold fnOf at e9
    split at e9
    · split at e9 <;> cases e9
    · cases e9
  | bad => rw [e9] at q; exact q.elim
  | ok f =>
  rw [e9] at q
  have q : ResG CA H σ W (fun p => Out X.K CA H P p Q) ((evAs cl es env).bind fun vs => evCall cl env f es vs) := q
  obtain ⟨hv, hfk⟩ : pv.1 = .fn f ∧ f ∈ ks := by
    unfold fnOf at e9
    split at e9
    · rename_i k ek
      split at e9
      · rename_i hk
        cases e9
        exact ⟨ek, hk⟩
      · cases e9
    · cases e9
  have Ff := F f hfk
  obtain ⟨k, ad, fd, ps, hps, hm, hk, hb, hF, hr⟩ := Ff.ex
  have hx : x = .ref ad := by
    rcases r with ⟨_, r⟩ | ⟨_, a, o, _, _, _, _, ow⟩
    · rw [hv] at r
      cases r with
      | fn e =>
        rw [Ff.ns ad hm] at e
        cases e; rfl
    · rw [hv] at ow; cases ow
  refine ⟨ad, k, fd, ps, _, hx, hF, hr, hk, hb, ?_⟩
  exact args_call (k := k) (ad := ad) (fd := fd) (ps := ps) hn h (er.grow st1) ((q.bind.at st1.s).imp fun vs q => (q.at st1.s).imp fun p o => Out.at o st1)
theorem evBf_ne (f : Bf) (vs : List Val) (c : Nat) : evBf f vs ≠ .exc c := by
  intro e
  unfold evBf at e
  split at e
  · unfold evB1 at e
    split at e <;> first | cases e | (split at e <;> first | cases e | (split at e <;> cases e))
  · unfold evB2 at e
    split at e <;> first | cases e | skip
    · split at e <;> cases e
    · split at e
      · split at e <;> cases e
      · cases e
  · cases e
theorem v3_blt {f : Bf} (hc : X.calm = true ∨ f = .int) (hf : bfFn f = true) {p : Pos} {srcs : List Expr} {es : List E} (hg : Gl X (bfN f)) (hm : X.mg (bfN f) = none) (h : Vs3 CA cl H0 X srcs es) (hne : srcs ≠ []) : V3 CA cl H0 X (.Call (.Name (bfN f) p) srcs [] pos) (.blt f es) := by
  refine .of (by intro i z; cases z) rfl fun W tk => ?_
  have pe : PE X (.Call (.Name (bfN f) p) srcs [] pos) (tCB (rBf X.K CA f) (tAs X.K CA cl H0 W es)) := by
    cases h with
    | nil => exact absurd rfl hne
    | cons h t =>
      have ha := pa_as tk (.cons h t)
      have st := okSrc.st h.1
      have cb : CallR X (bfV f) (rBf X.K CA f) := by
        rcases hc with hc | hc
        · exact call_bf hc f hf
        · subst hc; exact call_bfI
      cases f
      all_goals first
        | exact absurd hf (by decide)
        | exact pe_callB cb hg hm (by decide +kernel) ha (by decide) (by decide) (st _ _) (star_any t _)
        | exact pe_callTy cb hg hm (by decide +kernel) ha (by decide) (by decide) (st _ _) (star_any t _)
  refine pe.imp fun σ H Q q => ?_
  obtain ⟨env, P, er, q⟩ := q
  refine ⟨env, P, er, (ResG.bind q).imp fun vs q H1 P1 xs st1 r => ⟨vs, P1, _, st1.t, r, ?_⟩⟩
  have q := q.map
  cases e1 : evBf f vs with
  | ok v => rw [e1] at q; exact Out.at q st1
  | exc c => exact absurd e1 (evBf_ne _ _ _)
  | bad => rw [e1] at q; exact q.elim
def mtN : Bf → Str
  | .idx => "index"
  | _ => "count"
theorem v3_mt (hu : X.A.units + 64 < cLine) {f : Bf} (hf : bfFn f = false) {k : Bool} {n : Nat} {pa p1 pc : Pos} (hline : (pa.endLine == pc.line) = true) (hbase : attributeBase a (mtN f) X.env (eval a X.env) = eval a X.env) (ha : V3 CA cl H0 X a ea) :
    V3 CA cl H0 X (.Call (.Attribute a (mtN f) pa) [.Constant (.bool k) n p1] [] pc) (.blt f [ea, .cst (.bl k)]) := by
  refine .of (by intro i z; cases z) rfl fun W tk => ?_
  have pe : PE X (.Call (.Attribute a (mtN f) pa) [.Constant (.bool k) n p1] [] pc) (tBM X.K "list" (fun x xs H Q => ∃ (va : Val) (P L : Addr → Prop), Trk P H ∧ RVo X.K CA H P L va x ∧ xs = [.bl k] ∧ match evB2 f va (.bl k) with | .ok v => Out X.K CA H P (v, isLst v) Q | _ => False) (tO X.K CA cl H0 W ea) (tCons (tC (.bl k)) tNil)) := by
    cases f <;> first | exact absurd hf (by decide) | skip
    · refine pe_bm (id := "list.count") PySem.F.plainAttrs_list PySem.F.slot_list_count PySem.F.type_list_count (fun pins s σ H x xs v us Q I rx rxs h => ?_) (ha.opd W tk) (pa_cons pe_bl pa_nil) hbase rfl hline rfl rfl
      obtain ⟨va, P, L, t, rv, rfl, h⟩ := h
      exact call_mt hu .cnt rfl va k I (.cons rx rxs) t rv h
    · refine pe_bm (id := "list.index") PySem.F.plainAttrs_list PySem.F.slot_list_index PySem.F.type_list_index (fun pins s σ H x xs v us Q I rx rxs h => ?_) (ha.opd W tk) (pa_cons pe_bl pa_nil) hbase rfl hline rfl rfl
      obtain ⟨va, P, L, t, rv, rfl, h⟩ := h
      exact call_mt hu .idx rfl va k I (.cons rx rxs) t rv h
  refine pe.imp fun σ H Q q => ?_
  obtain ⟨env, P, er, q⟩ := q
  refine ⟨env, P, er, ?_⟩
  have q : ResG CA H σ W (fun p => Out X.K CA H P p Q) ((opd env ea (evE cl ea env)).bind fun x => (evB2 f x (.bl k)).map fun v => (v, isLst v)) := by
    have e : evE cl (.blt f [ea, .cst (.bl k)]) env = (opd env ea (evE cl ea env)).bind fun x => (evB2 f x (.bl k)).map fun v => (v, isLst v) := by
      show ((opd env ea (evE cl ea env)).bind fun v => R.ok [v, Val.bl k]).bind (fun vs => (evBf f vs).map fun v => (v, isLst v)) = _
      rw [R.bind_assoc]; rfl
    rw [← e]; exact q
  refine q.bind.imp fun va q H1 P1 x st1 r1 => ?_
  have q := q.map
  cases e1 : evB2 f va (.bl k) with
  | exc c => exact absurd e1 (evBf_ne f [va, .bl k] c)
  | bad => rw [e1] at q; exact q.elim
  | ok v =>
    rw [e1] at q
    refine ⟨?_, ⟨va, P1, _, st1.t, r1, rfl, by rw [e1]; exact Out.at q st1⟩⟩
    cases va <;> first | (exfalso; cases f <;> first | exact absurd hf (by decide) | cases e1) | skip
    obtain ⟨ad, ys, rfl, sa, qa⟩ := r1.lst
    exact .inl ⟨rfl, ys, SqL.of sa⟩
structure ClsP (CA : Nat → Option Addr) (X : Cx) (src : Expr) (c : Cl) : Prop where
  ex : ∃ cv cw, clsV CA c cv cw ∧ PE X src (tC cv)
theorem isi1_ne (v : Val) (d : Cl) (c : Nat) : isi1 v d ≠ .exc c := by
  intro e
  unfold isi1 at e
  split at e
  · split at e
    · split at e
      · cases e
      · split at e <;> cases e
    · split at e
      · exact ofO_ne _ _ e
      · cases e
  · split at e <;> cases e
theorem isiA_ne (v : Val) (c : Nat) : ∀ (ds : List Cl), isiA v ds ≠ .exc c
  | [], e => by cases v <;> cases e
  | d :: ds, e => by
    unfold isiA at e
    cases e1 : isi1 v d with
    | exc x => exact isi1_ne _ _ _ e1
    | bad => rw [e1] at e; cases e
    | ok b =>
      rw [e1] at e
      have e : (if b then R.ok true else isiA v ds) = .exc c := e
      cases b
      · exact isiA_ne v c ds e
      · cases e
theorem v3_is1 (T : CFs X.K CA) {p : Pos} {csrc : Expr} {c : Cl} (hg : Gl X "isinstance") (hm : X.mg "isinstance" = none) (hs : okSrc a = true) (hs2 : okSrc csrc = true) (ha : V3 CA cl H0 X a ea) (hc : ClsP CA X csrc c) :
    V3 CA cl H0 X (.Call (.Name "isinstance" p) [a, csrc] [] pos) (.isi ea [c]) := by
  refine .of (by intro i z; cases z) rfl fun W tk => ?_
  obtain ⟨cv, cw, hcv, pc⟩ := hc.ex
  refine (pe_callB (call_is1 T c) hg hm (by decide +kernel) (pa_cons (ha.opd W tk) (pa_cons pc pa_nil (okSrc.st hs2 _ _)) (okSrc.st hs _ _)) (by decide) (by decide) (okSrc.st hs _ _) (by rw [okSrc.st hs2]; rfl)).imp fun σ H Q q => ?_
  obtain ⟨env, P, er, q⟩ := q
  refine ⟨env, P, er, (ResG.bind q).imp fun va q H1 P1 x st1 r => ?_⟩
  cases e1 : isi1 va c with
  | exc z => exact absurd e1 (isi1_ne _ _ _)
  | bad =>
    simp only [isiA, e1, R.bind_bad] at q
    exact q.elim
  | ok b =>
    have e2 : isiA va [c] = .ok b := isiA_one e1
    rw [e2] at q
    exact ⟨va, P1, _, x, cv, cw, b, rfl, st1.t, r, hcv, e1, (Out.at q st1).bl st1.t⟩
theorem v3_isA (T : CFs X.K CA) {p p2 : Pos} {k : Nat} {csrcs : List Expr} {cs : List Cl} (hg : Gl X "isinstance") (hm : X.mg "isinstance" = none) (hs : okSrc a = true) (hl : lenOk csrcs.length = true) (ha : V3 CA cl H0 X a ea)
    (hc : Paired (fun s c => okSrc s = true ∧ ClsP CA X s c) csrcs cs) : V3 CA cl H0 X (.Call (.Name "isinstance" p) [a, .Tuple csrcs k p2] [] pos) (.isi ea cs) := by
  refine .of (by intro i z; cases z) rfl fun W tk => ?_
  have hcs : ∃ (cvs : List V) (cws : List Value), cvs.length = cws.length ∧ cvs.length = csrcs.length ∧ Paired (fun c (p : V × Value) => clsV CA c p.1 p.2) cs (cvs.zip cws) ∧ PA X csrcs (fun σ H Q => Q cvs H) := by
    clear hl
    induction hc with
    | nil => exact ⟨[], [], rfl, rfl, .nil, pa_nil⟩
    | cons h t ih =>
      obtain ⟨cvs, cws, h1, h2, h3, h4⟩ := ih
      obtain ⟨cv, cw, hcv, pc⟩ := h.2.ex
      exact ⟨cv :: cvs, cw :: cws, by rw [List.length_cons, List.length_cons, h1], by rw [List.length_cons, List.length_cons, h2], .cons hcv h3, pa_cons pc h4 (okSrc.st h.1 _ _)⟩
  obtain ⟨cvs, cws, h1, h2, h3, h4⟩ := hcs
  refine (pe_callB (call_isA T cs) hg hm (by decide +kernel) (pa_cons (ha.opd W tk) (pa_cons (pe_tup h4) pa_nil) (okSrc.st hs _ _)) (by decide) (by decide) (okSrc.st hs _ _) (by rfl)).imp fun σ H Q q => ?_
  obtain ⟨env, P, er, q⟩ := q
  refine ⟨env, P, er, (ResG.bind q).imp fun va q H1 P1 x st1 r => ⟨by rw [h2]; exact LIM_le hl, fun tp htp => ?_⟩⟩
  have st2 := step_new (o := .tup cvs) htp st1.t
  cases e1 : isiA va cs with
  | exc z => exact absurd e1 (isiA_ne _ _ _)
  | bad => rw [e1] at q; exact q.elim
  | ok b =>
    rw [e1] at q
    exact ⟨va, P1, _, x, tp, cvs, cws, b, rfl, st2.t, r.mono st2.s fun _ z => z, upd_same, h3, h1, e1, (Out.at q (st1.trans st2)).bl st2.t⟩
end
end G

set_option linter.all false
set_option maxHeartbeats 2000000
set_option maxRecDepth 100000
namespace G
open PySem PySem.Spec PyProof.Rows HT
open L2 hiding Takes XE CX takes_of passes_call ps_raise PMk MkP mk_of pmk_own passAt ps_try_as ps_try_many HdsOk
open L2N (Takes XE CX takes_of passes_call ps_raise PMk MkP mk_of pmk_own passAt)
section
variable {K : PySem.W.Frag} {CA : Nat → Option Addr} {H H1 H' H2 : Hp} {H0 : Bs} {P P1 P' P2 : Addr → Prop} {σ : L2.St} {env : Env}
theorem set_get {α : Type} {l : List α} {i j : Nat} {a b : α} (h : (l.set i a)[j]? = some b) : (i = j ∧ b = a) ∨ (i ≠ j ∧ l[j]? = some b) := by
  rw [List.getElem?_set] at h
  by_cases e : i = j
  · rw [if_pos e] at h
    subst e
    split at h
    · cases h; exact .inl ⟨rfl, rfl⟩
    · cases h
  · rw [if_neg e] at h
    exact .inr ⟨e, h⟩
theorem ER.lt (er : ER K CA H0 H P env σ) {i : Nat} {p : Option (Val × Bool)} (h : env[i]? = some p) : i < σ.length := by
  rw [← er.len]
  exact (List.getElem?_eq_some_iff.mp h).1
theorem ER.put (er : ER K CA H0 H P env σ) {i : Nat} {v : Val} {x : V} (r : RV K CA H P v x) : ER K CA H0 H P (G.put env i v false) (σ.set i (some x)) where
  ext := er.ext
  gr := er.gr
  trk := er.trk
  len := by unfold G.put; rw [List.length_set, List.length_set, er.len]
  shr := fun j w h => by
    unfold G.put at h
    rcases set_get h with ⟨rfl, e⟩ | ⟨ne, h⟩
    · cases e
      have hl : i < σ.length := by
        have := (List.getElem?_eq_some_iff.mp h).1
        rw [List.length_set, er.len] at this
        exact this
      exact ⟨x, List.getElem?_set_self hl, r⟩
    · rw [List.getElem?_set_ne ne]
      exact er.shr j w h
  own := fun j w h => by
    unfold G.put at h
    rcases set_get h with ⟨rfl, e⟩ | ⟨ne, h⟩
    · cases e
    · rw [List.getElem?_set_ne ne]
      exact er.own j w h
  dis := fun j k w z a h1 h2 s1 s2 => by
    unfold G.put at h1 h2
    rcases set_get h1 with ⟨rfl, e⟩ | ⟨ne, h1⟩
    · cases e
    · rcases set_get h2 with ⟨rfl, e⟩ | ⟨ne2, h2⟩
      · cases e
      · rw [List.getElem?_set_ne ne] at s1
        rw [List.getElem?_set_ne ne2] at s2
        exact er.dis j k w z a h1 h2 s1 s2
theorem ER.putOwnO (er : ER K CA H0 H P env σ) {i : Nat} {u : Val} {o : HO} {a : Addr} (h : H a = some o) (np : ¬ P a) (n0 : H0.h a = none) (r : OwnO K CA H P a u o) (hd : ∀ j b, j ≠ i → OwnAt env σ j b → b ≠ a) :
    ER K CA H0 H P (G.put env i u true) (σ.set i (some (.ref a))) where
  ext := er.ext
  gr := er.gr
  trk := er.trk
  len := by unfold G.put; rw [List.length_set, List.length_set, er.len]
  shr := fun j w h => by
    unfold G.put at h
    rcases set_get h with ⟨rfl, e⟩ | ⟨ne, h⟩
    · cases e
    · rw [List.getElem?_set_ne ne]
      exact er.shr j w h
  own := fun j w hj => by
    unfold G.put at hj
    rcases set_get hj with ⟨rfl, e⟩ | ⟨ne, hj⟩
    · cases e
      have hl : i < σ.length := by
        have := (List.getElem?_eq_some_iff.mp hj).1
        rw [List.length_set, er.len] at this
        exact this
      exact ⟨a, o, List.getElem?_set_self hl, h, np, n0, r⟩
    · rw [List.getElem?_set_ne ne]
      exact er.own j w hj
  dis := fun j k w z b h1 h2 s1 s2 => by
    unfold G.put at h1 h2
    rcases set_get h1 with ⟨rfl, e⟩ | ⟨ne, h1⟩
    · rcases set_get h2 with ⟨e2, _⟩ | ⟨ne2, h2⟩
      · exact e2
      · rcases set_get s1 with ⟨_, e⟩ | ⟨n, _⟩
        · cases e
          rw [List.getElem?_set_ne ne2] at s2
          exact absurd rfl (hd k a (Ne.symm ne2) ⟨⟨_, h2⟩, s2⟩)
        · exact absurd rfl n
    · rw [List.getElem?_set_ne ne] at s1
      rcases set_get h2 with ⟨rfl, e⟩ | ⟨ne2, h2⟩
      · rcases set_get s2 with ⟨_, e⟩ | ⟨n, _⟩
        · cases e
          exact absurd rfl (hd j a (Ne.symm ne) ⟨⟨_, h1⟩, s1⟩)
        · exact absurd rfl n
      · rw [List.getElem?_set_ne ne2] at s2
        exact er.dis j k w z b h1 h2 s1 s2
theorem ER.putOwn (er : ER K CA H0 H P env σ) {i : Nat} {vs : List Val} {xs : List V} {a : Addr} (h : H a = some (.lst xs)) (np : ¬ P a) (n0 : H0.h a = none) (r : RVs K CA H P vs xs) (hd : ∀ j b, j ≠ i → OwnAt env σ j b → b ≠ a) :
    ER K CA H0 H P (G.put env i (.lst vs) true) (σ.set i (some (.ref a))) := er.putOwnO h np n0 (.lst r) hd
theorem ER.less (er : ER K CA H0 H P env σ) {env' : Env} {σ' : L2.St} (l1 : env'.length = env.length) (l2 : σ'.length = σ.length) (h : ∀ (i : Nat) p, env'[i]? = some (some p) → env[i]? = some (some p) ∧ σ'[i]? = σ[i]?) : ER K CA H0 H P env' σ' where
  ext := er.ext
  gr := er.gr
  trk := er.trk
  len := by rw [l1, l2, er.len]
  shr := fun j w hj => by
    obtain ⟨h1, h2⟩ := h j _ hj
    rw [h2]; exact er.shr j w h1
  own := fun j w hj => by
    obtain ⟨h1, h2⟩ := h j _ hj
    rw [h2]; exact er.own j w h1
  dis := fun j k w z b h1 h2 s1 s2 => by
    obtain ⟨g1, g2⟩ := h j _ h1
    obtain ⟨g3, g4⟩ := h k _ h2
    rw [g2] at s1
    rw [g4] at s2
    exact er.dis j k w z b g1 g3 s1 s2
theorem wipe_get (σ : L2.St) : ∀ (vs : List Nat) (j : Nat), (wipe σ vs)[j]? = if j ∈ vs then (σ[j]?).map (fun _ => none) else σ[j]?
  | [], j => by simp [wipe]
  | v :: vs, j => by
    unfold wipe
    by_cases e : v = j
    · subst e
      rw [if_pos List.mem_cons_self, List.getElem?_set_self', wipe_get σ vs v]
      split <;> simp [Option.map_map, Function.comp_def] <;> rfl
    · rw [List.getElem?_set_ne e, wipe_get σ vs j]
      have : (j ∈ v :: vs) ↔ j ∈ vs := by simp [Ne.symm e]
      simp only [this]
theorem wipeE_get (env : Env) : ∀ (vs : List Nat) (j : Nat), (wipeE env vs)[j]? = if j ∈ vs then (env[j]?).map (fun _ => none) else env[j]?
  | [], j => by simp [wipeE]
  | v :: vs, j => by
    unfold wipeE
    by_cases e : v = j
    · subst e
      rw [if_pos List.mem_cons_self, List.getElem?_set_self', wipeE_get env vs v]
      split <;> simp [Option.map_map, Function.comp_def] <;> rfl
    · rw [List.getElem?_set_ne e, wipeE_get env vs j]
      have : (j ∈ v :: vs) ↔ j ∈ vs := by simp [Ne.symm e]
      simp only [this]
theorem wipeE_length (env : Env) : ∀ vs : List Nat, (wipeE env vs).length = env.length
  | [] => rfl
  | v :: vs => by unfold wipeE; rw [List.length_set, wipeE_length env vs]
theorem wipe_set {σ : L2.St} {vs : List Nat} {i : Nat} {y : Option V} (h : i ∈ vs) : wipe (σ.set i y) vs = wipe σ vs := by
  refine List.ext_getElem? fun j => ?_
  rw [wipe_get, wipe_get]
  by_cases e : i = j
  · subst e
    rw [if_pos h, if_pos h, List.getElem?_set_self']
    simp [Option.map_map, Function.comp_def]
  · rw [List.getElem?_set_ne e]
theorem wipe_wipe {σ : L2.St} {vs : List Nat} : wipe (wipe σ vs) vs = wipe σ vs := by
  refine List.ext_getElem? fun j => ?_
  rw [wipe_get, wipe_get]
  split <;> simp [Option.map_map, Function.comp_def]
theorem ER.wipe (er : ER K CA H0 H P env σ) (vs : List Nat) : ER K CA H0 H P (wipeE env vs) (L2.wipe σ vs) := by
  refine er.less (wipeE_length _ _) (wipe_length _ _) fun i p h => ?_
  rw [wipeE_get] at h
  rw [wipe_get]
  split at h
  · cases e : env[i]? with
    | none => rw [e] at h; cases h
    | some q => rw [e] at h; cases h
  · rename_i hn
    exact ⟨h, if_neg hn⟩
end
def gN : List Nat → TGs
  | [] => gNil
  | i :: is => gCons (gName i) (gN is)
def gT (K : PySem.W.Frag) : Tg → TG
  | .one i => gName i
  | .tup is => gTup K is.length (gN is)
section
variable {K : PySem.W.Frag} {CA : Nat → Option Addr} {H : Hp} {H0 : Bs} {P : Addr → Prop}
theorem putAll_ok : ∀ {is : List Nat} {vs : List Val} {xs : List V} {env env' : Env} {σ : L2.St} {Q : L2.St → Hp → Prop}, ER K CA H0 H P env σ → RVs K CA H P vs xs → putAll env is vs = .ok env' →
    (∀ σ', ER K CA H0 H P env' σ' → (∀ ws : List Nat, (∀ i ∈ is, i ∈ ws) → L2.wipe σ' ws = L2.wipe σ ws) → Q σ' H) → gN is xs σ H Q
  | [], _, _, _, _, _, _, er, .nil, h, q => by
    cases h
    exact ⟨rfl, q _ er fun _ _ => rfl⟩
  | [], _, _, _, _, _, _, _, .cons _ _, h, _ => by cases h
  | _ :: _, _, _, _, _, _, _, _, .nil, h, _ => by cases h
  | i :: is, _, _, env, env', σ, Q, er, .cons (x := x) (xs := xs) r t, h, q => by
    refine ⟨x, xs, rfl, ?_⟩
    show gN is xs (σ.set i (some x)) H Q
    refine putAll_ok (er.put r) t h fun σ' er' hw => q σ' er' fun ws hws => ?_
    rw [hw ws fun j hj => hws j (List.mem_cons_of_mem _ hj), wipe_set (hws i List.mem_cons_self)]
theorem bindT_ok {tg : Tg} {env env' : Env} {σ : L2.St} {v : Val} {x : V} {Q : L2.St → Hp → Prop} (er : ER K CA H0 H P env σ) (r : RV K CA H P v x) (h : bindT tg env v = .ok env')
    (q : ∀ σ', ER K CA H0 H P env' σ' → (∀ ws : List Nat, (∀ i ∈ tgs tg, i ∈ ws) → L2.wipe σ' ws = L2.wipe σ ws) → Q σ' H) : gT K tg x σ H Q := by
  cases tg with
  | one i =>
    cases h
    exact q _ (er.put r) fun ws hws => wipe_set (hws i List.mem_cons_self)
  | tup is =>
    unfold bindT at h
    split at h
    · rename_i z; cases z
    · rename_i z; cases z
      split at h
      · rename_i vs
        split at h
        · rename_i hl
          cases r with
          | tup s t =>
            refine ⟨_, _, rfl, s, ?_, putAll_ok er t h q⟩
            rw [← t.length, hl]
        · cases h
      · cases h
end
inductive TgP (X : Cx) : Expr → Tg → Prop where
  | one {x : Str} {i : Nat} {p : Pos} (hi : X.N[i]? = some x) (hl : Loc X.env.scope x) (hf : X.fn x = true ∨ X.env.scope.names.lookup x = some .local) : TgP X (.Name x p) (.one i)
  | tup {es : List Expr} {is : List Nat} {k : Nat} {p : Pos} (h : Paired (fun e (i : Nat) => ∃ x q, e = Expr.Name x q ∧ X.N[i]? = some x ∧ Loc X.env.scope x ∧ (X.fn x = true ∨ X.env.scope.names.lookup x = some .local)) es is) : TgP X (.Tuple es k p) (.tup is)
theorem pg_tg {X : Cx} {src : Expr} {tg : Tg} (hN : X.N.Nodup) (hc : X.calm = true) (h : TgP X src tg) : PG X src (gT X.K tg) := by
  cases h with
  | one hi hl hf => exact pg_name hN hi hl hf
  | @tup es is k p h =>
    have g : PGs X es (gN is) ∧ (assignEach es X.env).length = is.length ∧ (assignEach es X.env).findIdx? (·.1) = none := by
      induction h with
      | nil => exact ⟨pgs_nil, rfl, rfl⟩
      | cons h t ih =>
        obtain ⟨x, q, rfl, hi, hl, hf⟩ := h
        obtain ⟨i1, i2, i3⟩ := ih
        refine ⟨pgs_cons (pg_name hN hi hl hf) i1, ?_, ?_⟩
        · show (assignEach _ X.env).length + 1 = _
          rw [i2]; rfl
        · show List.findIdx? (·.1) ((false, _) :: assignEach _ X.env) = none
          rw [List.findIdx?_cons, if_neg Bool.false_ne_true, i3]; rfl
    exact pg_tup hc g.1 g.2.1 g.2.2
structure Src (K : PySem.W.Frag) (CA : Nat → Option Addr) (R : Hp → (Addr → Prop) → Prop) (J : L2.It) (its : List Val) : Prop where
  go : ∀ (i : Nat) H P, R H P → i < its.length → J.go i H
  yld : ∀ (i : Nat) H P x H', R H P → i < its.length → J.yld i H x H' → Same H H' ∧ ∃ v, its[i]? = some v ∧ RV K CA H' P v x
  stop : ∀ H P, R H P → J.stop its.length H
def SameR (H1 : Hp) (P1 : Addr → Prop) (H : Hp) (P : Addr → Prop) : Prop := Same H1 H ∧ ∀ a, P1 a → P a
def PersR (H1 : Hp) (P1 : Addr → Prop) (H : Hp) (P : Addr → Prop) : Prop := Pers P1 H1 H ∧ ∀ a, P1 a → P a
theorem SameR.pers {H1 H : Hp} {P1 P : Addr → Prop} (h : SameR H1 P1 H P) : PersR H1 P1 H P := ⟨.of_same h.1, h.2⟩
section
variable {K : PySem.W.Frag} {CA : Nat → Option Addr} {H1 : Hp} {P1 : Addr → Prop} {R : Hp → (Addr → Prop) → Prop}
theorem src_list {a : Addr} {xs : List V} {vs : List Val} (hR : ∀ H P, R H P → PersR H1 P1 H P) (hl : ∀ H P, R H P → H a = some (.lst xs)) (r : RVs K CA H1 P1 vs xs) : Src K CA R (Itl K a) vs where
  go := fun i H P h hi => by
    obtain ⟨x, hx, _⟩ := r.get (List.getElem?_eq_getElem hi)
    exact ⟨xs, x, SqL.of (hl H P h), hx⟩
  yld := fun i H P x H' h hi y => by
    obtain ⟨e, hy⟩ := y
    have hx := hy xs (SqL.of (hl H P h))
    obtain ⟨v, hv, rv⟩ := r.get' hx
    have := hR H P h
    exact ⟨by rw [e]; exact Same.refl _, v, hv, by rw [e]; exact RV.pers this.1 this.2 v rv⟩
  stop := fun H P h => ⟨xs, SqL.of (hl H P h), Nat.le_of_eq r.length.symm⟩
theorem src_tup {a : Addr} {xs : List V} {vs : List Val} (hR : ∀ H P, R H P → PersR H1 P1 H P) (s : SqT K H1 a xs) (r : RVs K CA H1 P1 vs xs) : Src K CA R (Itt K a) vs where
  go := fun i H P h hi => by
    obtain ⟨x, hx, _⟩ := r.get (List.getElem?_eq_getElem hi)
    exact ⟨xs, x, (hR H P h).1.sqT s, hx⟩
  yld := fun i H P x H' h hi y => by
    obtain ⟨e, hy⟩ := y
    have hx := hy xs ((hR H P h).1.sqT s)
    obtain ⟨v, hv, rv⟩ := r.get' hx
    have := hR H P h
    exact ⟨by rw [e]; exact Same.refl _, v, hv, by rw [e]; exact RV.pers this.1 this.2 v rv⟩
  stop := fun H P h => ⟨xs, (hR H P h).1.sqT s, Nat.le_of_eq r.length.symm⟩
theorem src_str (z : Str) : Src K CA R (Its z) (z.cps.toList.map fun c => .str ⟨#[c]⟩) where
  go := fun i H P h hi => by
    rw [List.length_map, Array.length_toList] at hi
    exact hi
  yld := fun i H P x H' h hi y => by
    rw [List.length_map, Array.length_toList] at hi
    obtain ⟨e, c, hc, rfl⟩ := y
    refine ⟨by rw [e]; exact Same.refl _, .str ⟨#[c]⟩, ?_, .str _⟩
    rw [List.getElem?_map, Array.getElem?_toList, hc]; rfl
  stop := fun H P h => by
    show z.cps.size ≤ _
    rw [List.length_map, Array.length_toList]
    exact Nat.le_refl _
theorem src_rng (lo : Int) (n : Nat) : Src K CA R (Itr lo n) (rngV lo n) where
  go := fun i H P h hi => by
    unfold rngV at hi
    rw [List.length_map, List.length_range] at hi
    exact hi
  yld := fun i H P x H' h hi y => by
    obtain ⟨e, hx⟩ := y
    unfold rngV at hi ⊢
    rw [List.length_map, List.length_range] at hi
    refine ⟨by rw [e]; exact Same.refl _, .int (lo + i), ?_, ?_⟩
    · rw [List.getElem?_map, List.getElem?_range hi]; rfl
    · rw [hx]; exact .int _
  stop := fun H P h => by
    unfold rngV
    rw [List.length_map, List.length_range]
    exact Nat.le_refl _
theorem rev_get {α : Type} {l : List α} {i : Nat} (h : i < l.length) : l.reverse[i]? = l[l.length - 1 - i]? := List.getElem?_reverse h
theorem src_revL {a : Addr} {xs : List V} {vs : List Val} (hR : ∀ H P, R H P → PersR H1 P1 H P) (hl : ∀ H P, R H P → H a = some (.lst xs)) (r : RVs K CA H1 P1 vs xs) : Src K CA R (Itv K a xs.length) vs.reverse where
  go := fun i H P h hi => by
    rw [List.length_reverse] at hi
    have hi2 := hi
    rw [r.length] at hi2
    have : xs.length - 1 - i < xs.length := by omega
    exact ⟨hi2, xs, _, SqL.of (hl H P h), List.getElem?_eq_getElem this⟩
  yld := fun i H P x H' h hi y => by
    obtain ⟨e, hy⟩ := y
    rw [List.length_reverse] at hi
    have hx := hy xs (SqL.of (hl H P h))
    obtain ⟨v, hv, rv⟩ := r.get' hx
    have := hR H P h
    refine ⟨by rw [e]; exact Same.refl _, v, ?_, by rw [e]; exact RV.pers this.1 this.2 v rv⟩
    rw [rev_get hi, r.length]
    exact hv
  stop := fun H P h => by
    rw [List.length_reverse, r.length]
    exact Nat.le_refl _
theorem src_revT {a : Addr} {xs : List V} {vs : List Val} (hR : ∀ H P, R H P → PersR H1 P1 H P) (s : SqT K H1 a xs) (r : RVs K CA H1 P1 vs xs) : Src K CA R (RT.ItvT K a xs.length) vs.reverse where
  go := fun i H P h hi => by
    rw [List.length_reverse] at hi
    have hi2 := hi
    rw [r.length] at hi2
    have : xs.length - 1 - i < xs.length := by omega
    exact ⟨hi2, xs, _, (hR H P h).1.sqT s, List.getElem?_eq_getElem this⟩
  yld := fun i H P x H' h hi y => by
    obtain ⟨e, hy⟩ := y
    rw [List.length_reverse] at hi
    have hx := hy xs ((hR H P h).1.sqT s)
    obtain ⟨v, hv, rv⟩ := r.get' hx
    have := hR H P h
    refine ⟨by rw [e]; exact Same.refl _, v, ?_, by rw [e]; exact RV.pers this.1 this.2 v rv⟩
    rw [rev_get hi, r.length]
    exact hv
  stop := fun H P h => by
    rw [List.length_reverse, r.length]
    exact Nat.le_refl _
theorem src_zipL {a b : Addr} {xs ys : List V} {vs ws : List Val} (hR : ∀ H P, R H P → PersR H1 P1 H P) (hl : ∀ H P, R H P → H a = some (.lst xs)) (hl2 : ∀ H P, R H P → H b = some (.lst ys)) (r : RVs K CA H1 P1 vs xs) (r2 : RVs K CA H1 P1 ws ys) : Src K CA R (Itz K a b) (List.zipWith (fun x y => .tup [x, y]) vs ws) where
  go := fun i H P h hi => by
    rw [List.length_zipWith] at hi
    obtain ⟨x, hx, _⟩ := r.get (List.getElem?_eq_getElem (show i < vs.length by omega))
    obtain ⟨y, hy, _⟩ := r2.get (List.getElem?_eq_getElem (show i < ws.length by omega))
    exact ⟨xs, ys, x, y, SqL.of (hl H P h), SqL.of (hl2 H P h), hx, hy⟩
  yld := fun i H P x H' h hi y => by
    obtain ⟨T, x1, y1, rfl, hT, rfl, h1, h2⟩ := y
    obtain ⟨v, hv, rv⟩ := r.get' (h1 xs (SqL.of (hl H P h)))
    obtain ⟨w, hw, rw'⟩ := r2.get' (h2 ys (SqL.of (hl2 H P h)))
    have p := hR H P h
    have sn := same_new (o := .tup [x1, y1]) hT
    refine ⟨sn, .tup [v, w], ?_, .tup (SqT.of upd_same) (.cons ((RV.pers p.1 p.2 v rv).mono sn fun _ z => z) (.cons ((RV.pers p.1 p.2 w rw').mono sn fun _ z => z) .nil))⟩
    rw [List.getElem?_zipWith, hv, hw]
  stop := fun H P h => ⟨xs, ys, SqL.of (hl H P h), SqL.of (hl2 H P h), by rw [List.length_zipWith, ← r.length, ← r2.length]; omega⟩
theorem src_zipT {a b : Addr} {xs ys : List V} {vs ws : List Val} (hR : ∀ H P, R H P → PersR H1 P1 H P) (s : SqT K H1 a xs) (s2 : SqT K H1 b ys) (r : RVs K CA H1 P1 vs xs) (r2 : RVs K CA H1 P1 ws ys) : Src K CA R (RZ.ItzT K a b) (List.zipWith (fun x y => .tup [x, y]) vs ws) where
  go := fun i H P h hi => by
    rw [List.length_zipWith] at hi
    obtain ⟨x, hx, _⟩ := r.get (List.getElem?_eq_getElem (show i < vs.length by omega))
    obtain ⟨y, hy, _⟩ := r2.get (List.getElem?_eq_getElem (show i < ws.length by omega))
    exact ⟨xs, ys, x, y, (hR H P h).1.sqT s, (hR H P h).1.sqT s2, hx, hy⟩
  yld := fun i H P x H' h hi y => by
    obtain ⟨T, x1, y1, rfl, hT, rfl, h1, h2⟩ := y
    obtain ⟨v, hv, rv⟩ := r.get' (h1 xs ((hR H P h).1.sqT s))
    obtain ⟨w, hw, rw'⟩ := r2.get' (h2 ys ((hR H P h).1.sqT s2))
    have p := hR H P h
    have sn := same_new (o := .tup [x1, y1]) hT
    refine ⟨sn, .tup [v, w], ?_, .tup (SqT.of upd_same) (.cons ((RV.pers p.1 p.2 v rv).mono sn fun _ z => z) (.cons ((RV.pers p.1 p.2 w rw').mono sn fun _ z => z) .nil))⟩
    rw [List.getElem?_zipWith, hv, hw]
  stop := fun H P h => ⟨xs, ys, (hR H P h).1.sqT s, (hR H P h).1.sqT s2, by rw [List.length_zipWith, ← r.length, ← r2.length]; omega⟩
end
def tI (K : PySem.W.Frag) (CA : Nat → Option Addr) (cl : Nat → List Val → R (Val × Bool)) (H0 : Bs) (W : WX) (RR : Hp → (Addr → Prop) → Hp → (Addr → Prop) → Prop) (it : G.It) : TI := fun σ H R => ∃ env P, ER K CA H0 H P env σ ∧
  ResG CA H σ W (fun its => ∀ J H' P', Step P H P' H' → Src K CA (RR H' P') J its → R J H') (evIt cl it env)
def TupS (it : G.It) (tg : Expr) : Prop := zipI it = true → ∃ es k p, tg = Expr.Tuple es k p
def tIt (K : PySem.W.Frag) (CA : Nat → Option Addr) (H0 : Bs) (f : Nat) : TI := fun σ H R => ∃ env P vs, ER K CA H0 H P env σ ∧ env[f]? = some (some (.tup vs, false)) ∧
  ∀ H' P' a xs, Step P H P' H' → SqT K H' a xs → RVs K CA H' P' vs xs → R (Itt K a) H'
structure VI (CA : Nat → Option Addr) (cl : Nat → List Val → R (Val × Bool)) (H0 : Bs) (X : Cx) (src : Expr) (it : G.It) : Prop where
  comp : ∀ W tg, Takes X W → TupS it tg → PI X tg src (tI X.K CA cl H0 W SameR it)
  loop : borI it = false → ∀ W tg, Takes X W → TupS it tg → PI X tg src (tI X.K CA cl H0 W PersR it)
  fs : ∀ env x, foldedSetIterable src env x = pure x
  tup : ∀ f, it = .val (.nm f) → ∀ W tg, Takes X W → PI X tg src (tIt X.K CA H0 f)
section
variable {X : Cx} {CA : Nat → Option Addr} {cl : Nat → List Val → R (Val × Bool)} {H0 : Bs} {src a b : Expr} {e ea eb : E} {pos p : Pos}
theorem toI_res {H : Hp} {σ : L2.St} {W : WX} {α : Type} {post : α → Prop} {v : Val} {f : Int → G.R α} (q : ResG CA H σ W post ((toI v).bind f)) : ∃ k, v = .int k ∧ ResG CA H σ W post (f k) := by
  cases v <;> first | exact q.elim | exact ⟨_, rfl, q⟩
theorem PI.imp {tg l : Expr} {w w' : TI} (h : PI X tg l w) (i : ∀ σ H R, w' σ H R → w σ H R) : PI X tg l w' := ⟨fun pins s σ H R I q => h.run pins s σ H R I (i σ H R q)⟩
theorem vi_val (hs : okSrc a = true) (ha : V3 CA cl H0 X a ea) : VI CA cl H0 X a (.val ea) where
  fs := fun env x => okSrc.fs hs env x
  tup := fun f e W tg tk => by
    injection e with e
    subst e
    refine ⟨fun pins s σ H R I h => ?_⟩
    obtain ⟨env, P, vs, er, hv, q⟩ := h
    refine (pi_tup (ha.val W tk)).run pins s σ H R I ⟨env, P, er, ?_⟩
    have e1 : evE cl (.nm f) env = .ok (.tup vs, false) := by
      show (lookF env f).map (·, false) = _
      unfold lookF
      rw [hv]; rfl
    rw [e1]
    intro H' P' x st r
    rcases r with ⟨_, r⟩ | ⟨z, _⟩
    · cases r with
      | tup sa qa => exact ⟨_, rfl, ⟨_, sa⟩, q H' P' _ _ st sa qa⟩
    · cases z
  comp := fun W tg tk _ => ⟨fun pins s σ H R I h => by
    obtain ⟨env, P, er, q⟩ := h
    have q := ResG.bind q
    cases e1 : opd env ea (evE cl ea env) with
    | exc c => exact (pi_list (ha.opd W tk)).run pins s σ H R I ⟨env, P, er, by rw [e1] at q ⊢; exact q⟩
    | bad => rw [e1] at q; exact q.elim
    | ok v =>
      rw [e1] at q
      cases v <;> first | exact q.elim | skip
      case tup vs =>
        refine (pi_tup (ha.opd W tk)).run pins s σ H R I ⟨env, P, er, ?_⟩
        rw [e1]
        intro H' P' x st r
        obtain ⟨a, xs, rfl, sa, qa⟩ := r.tup
        exact ⟨a, rfl, ⟨xs, sa⟩, q _ H' P' st (src_tup (fun H P h => h.pers) sa qa)⟩
      case lst vs =>
        refine (pi_list (ha.opd W tk)).run pins s σ H R I ⟨env, P, er, ?_⟩
        rw [e1]
        intro H' P' x st r
        obtain ⟨a, xs, rfl, sa, qa⟩ := r.lst
        exact ⟨a, rfl, ⟨xs, SqL.of sa⟩, q _ H' P' st (src_list (fun H P h => h.pers) (fun H P h => h.1 _ _ sa) qa)⟩
      case str z =>
        refine (pi_str (ha.opd W tk)).run pins s σ H R I ⟨env, P, er, ?_⟩
        rw [e1]
        intro H' P' x st r
        cases r.str
        exact ⟨z, rfl, q _ H' P' st (src_str z)⟩⟩
  loop := fun hb W tg tk _ => ⟨fun pins s σ H R I h => by
    obtain ⟨env, P, er, q⟩ := h
    have q := ResG.bind q
    have nb : ∀ i, ea ≠ .bor i := fun i z => by subst z; cases hb
    rw [tE_nb nb] at q
    have q := q.map
    cases e1 : evE cl ea env with
    | exc c => exact (pi_list (ha.val W tk)).run pins s σ H R I ⟨env, P, er, by rw [e1] at q ⊢; exact q⟩
    | bad => rw [e1] at q; exact q.elim
    | ok p =>
      rw [e1] at q
      obtain ⟨v, fr⟩ := p
      cases v <;> first | exact q.elim | skip
      case tup vs =>
        refine (pi_tup (ha.val W tk)).run pins s σ H R I ⟨env, P, er, ?_⟩
        rw [e1]
        intro H' P' x st r
        obtain ⟨P3, st3, g3, r3⟩ := r.rv st
        cases r3 with
        | tup sa qa => exact ⟨_, rfl, ⟨_, sa⟩, q _ H' P3 st3 (src_tup (fun H P h => h) sa qa)⟩
      case lst vs =>
        refine (pi_list (ha.val W tk)).run pins s σ H R I ⟨env, P, er, ?_⟩
        rw [e1]
        intro H' P' x st r
        obtain ⟨P3, st3, g3, r3⟩ := r.rv st
        cases r3 with
        | lst pa sa qa => exact ⟨_, rfl, ⟨_, SqL.of sa⟩, q _ H' P3 st3 (src_list (fun H P h => h) (fun H P h => h.1 _ _ sa (.inl pa)) qa)⟩
      case str z =>
        refine (pi_str (ha.val W tk)).run pins s σ H R I ⟨env, P, er, ?_⟩
        rw [e1]
        intro H' P' x st r
        obtain ⟨P3, st3, g3, r3⟩ := r.rv st
        cases r3
        exact ⟨z, rfl, q _ H' P3 st3 (src_str z)⟩⟩
theorem vi_rng1 (hg : Gl X "range") (hm : X.mg "range" = none) (hs : okSrc a = true) (ha : V3 CA cl H0 X a ea) : VI CA cl H0 X (.Call (.Name "range" p) [a] [] pos) (.rng1 ea) := by
  have go : ∀ {RR} W tg, Takes X W → PI X tg (.Call (.Name "range" p) [a] [] pos) (tI X.K CA cl H0 W RR (.rng1 ea)) := fun {RR} W tg tk =>
    PI.imp (pi_range1 hg hm (pa_cons (ha.opd W tk) pa_nil (okSrc.st hs _ _)) (okSrc.st hs _ _)) fun σ H R q => by
      obtain ⟨env, P, er, q⟩ := q
      refine ⟨env, P, er, (ResG.bind q).imp fun v q H' P' x st r => ?_⟩
      cases v <;> first | exact q.elim | skip
      case int n =>
        cases r.int
        have q : ResG CA H σ W _ (if rngOk n then G.R.ok (rngV 0 n.toNat) else .bad) := q
        cases hr : rngOk n with
        | false => rw [hr] at q; exact q.elim
        | true =>
          rw [hr] at q
          have hb : -16000000 ≤ n ∧ n ≤ 16000000 := rng_of hr
          exact ⟨n, rfl, by omega, by omega, q _ H' P' st (src_rng 0 _)⟩
  exact ⟨fun W tg tk _ => go W tg tk, fun _ W tg tk _ => go W tg tk, fun env x => rfl, fun f e => by cases e⟩
theorem vi_rng2 (hg : Gl X "range") (hm : X.mg "range" = none) (hs : okSrc a = true) (hs2 : okSrc b = true) (ha : V3 CA cl H0 X a ea) (hb : V3 CA cl H0 X b eb) : VI CA cl H0 X (.Call (.Name "range" p) [a, b] [] pos) (.rng2 ea eb) := by
  have go : ∀ {RR} W tg, Takes X W → PI X tg (.Call (.Name "range" p) [a, b] [] pos) (tI X.K CA cl H0 W RR (.rng2 ea eb)) := fun {RR} W tg tk =>
    PI.imp (pi_range2 hg hm (pa_cons (ha.opd W tk) (pa_cons (hb.opd W tk) pa_nil (okSrc.st hs2 _ _)) (okSrc.st hs _ _)) (by rw [okSrc.st hs, okSrc.st hs2]; rfl) (by rw [okSrc.st hs2]; rfl)) fun σ H R q => by
      obtain ⟨env, P, er, q⟩ := q
      refine ⟨env, P, er, (ResG.bind q).imp fun v q H1 P1 x st r => ⟨env, P1, er.grow st, (q.bind.at st.s).imp fun w q H' P' y st2 r2 => ?_⟩⟩
      obtain ⟨m, em, q⟩ := toI_res q
      obtain ⟨n, en, q⟩ := toI_res q
      rw [em] at r
      rw [en] at r2
      cases r.int
      cases r2.int
      cases hr : (rngOk m && rngOk n) with
      | false => rw [hr] at q; exact q.elim
      | true =>
        rw [hr] at q
        rw [Bool.and_eq_true] at hr
        have h1 : -16000000 ≤ m ∧ m ≤ 16000000 := rng_of hr.1
        have h2 : -16000000 ≤ n ∧ n ≤ 16000000 := rng_of hr.2
        exact ⟨m, n, rfl, ⟨by omega, by omega, by omega, by omega⟩, q _ H' P' (st.trans st2) (src_rng m _)⟩
  exact ⟨fun W tg tk _ => go W tg tk, fun _ W tg tk _ => go W tg tk, fun env x => rfl, fun f e => by cases e⟩
theorem vi_rvd (hg : Gl X "reversed") (hm : X.mg "reversed" = none) (hs : okSrc a = true) (ha : V3 CA cl H0 X a ea) : VI CA cl H0 X (.Call (.Name "reversed" p) [a] [] pos) (.rvd ea) where
  fs := fun env x => rfl
  tup := fun f e => by cases e
  comp := fun W tg tk _ => PI.imp (RT.pi_revA hg hm (ha.opd W tk) (okSrc.st hs _ _)) fun σ H R q => by
    obtain ⟨env, P, er, q⟩ := q
    refine ⟨env, P, er, (ResG.bind q).imp fun v q H' P' x st r => ?_⟩
    have q := ResG.map q
    cases v <;> first | exact q.elim | skip
    case tup vs =>
      obtain ⟨a, xs, rfl, sa, qa⟩ := r.tup
      exact ⟨a, xs, rfl, .inr ⟨sa, q _ H' P' st (src_revT (fun H P h => h.pers) sa qa)⟩⟩
    case lst vs =>
      obtain ⟨a, xs, rfl, sa, qa⟩ := r.lst
      exact ⟨a, xs, rfl, .inl ⟨SqL.of sa, q _ H' P' st (src_revL (fun H P h => h.pers) (fun H P h => h.1 _ _ sa) qa)⟩⟩
  loop := fun hb W tg tk _ => PI.imp (RT.pi_revA hg hm (ha.val W tk) (okSrc.st hs _ _)) fun σ H R q => by
    obtain ⟨env, P, er, q⟩ := q
    have q := ResG.bind q
    have nb : ∀ i, ea ≠ .bor i := fun i z => by subst z; cases hb
    rw [tE_nb nb] at q
    refine ⟨env, P, er, q.map.imp fun p q H' P' x st r => ?_⟩
    have q := ResG.map q
    obtain ⟨P3, st3, g3, r3⟩ := r.rv st
    obtain ⟨v, fr⟩ := p
    cases v <;> first | exact q.elim | skip
    case tup vs =>
      cases r3 with
      | tup sa qa => exact ⟨_, _, rfl, .inr ⟨sa, q _ H' P3 st3 (src_revT (fun H P h => h) sa qa)⟩⟩
    case lst vs =>
      cases r3 with
      | lst pa sa qa => exact ⟨_, _, rfl, .inl ⟨SqL.of sa, q _ H' P3 st3 (src_revL (fun H P h => h) (fun H P h => h.1 _ _ sa (.inl pa)) qa)⟩⟩
theorem vi_zip (hg : Gl X "zip") (hm : X.mg "zip" = none) (hs : okSrc a = true) (hs2 : okSrc b = true) (ha : V3 CA cl H0 X a ea) (hb : V3 CA cl H0 X b eb) (ha' : V3 CA cl H0 X a ea) : VI CA cl H0 X (.Call (.Name "zip" p) [a, b] [] pos) (.zip ea eb) where
  fs := fun env x => rfl
  tup := fun f e => by cases e
  comp := fun W tg tk ht => by
    obtain ⟨es, kk, tp, rfl⟩ := ht rfl
    refine PI.imp (RZ.pi_zipA hg hm (pa_cons (ha.opd W tk) (pa_cons (hb.opd W tk) pa_nil (okSrc.st hs2 _ _)) (okSrc.st hs _ _)) (okSrc.st hs _ _) (by rw [okSrc.st hs2]; rfl)) fun σ H R q => ?_
    obtain ⟨env, P, er, q⟩ := q
    refine ⟨env, P, er, (ResG.bind q).imp fun v q H1 P1 x st r => ⟨env, P1, er.grow st, (q.bind.at st.s).imp fun w q H' P' y st2 r2 => ?_⟩⟩
    have r := r.mono st2.s st2.g.1
    cases v <;> cases w <;> first | exact q.elim | skip
    case tup.tup vs ws =>
      obtain ⟨a1, xs, rfl, sa, qa⟩ := r.tup
      obtain ⟨b1, ys, rfl, sb, qb⟩ := r2.tup
      exact ⟨a1, b1, xs, ys, rfl, .inr ⟨sa, sb, q _ H' P' (st.trans st2) (src_zipT (fun H P h => h.pers) sa sb qa qb)⟩⟩
    case lst.lst vs ws =>
      obtain ⟨a1, xs, rfl, sa, qa⟩ := r.lst
      obtain ⟨b1, ys, rfl, sb, qb⟩ := r2.lst
      exact ⟨a1, b1, xs, ys, rfl, .inl ⟨SqL.of sa, SqL.of sb, q _ H' P' (st.trans st2) (src_zipL (fun H P h => h.pers) (fun H P h => h.1 _ _ sa) (fun H P h => h.1 _ _ sb) qa qb)⟩⟩
  loop := fun hbo W tg tk ht => by
    obtain ⟨es, kk, tp, rfl⟩ := ht rfl
    have nb : ∀ i, ea ≠ .bor i := fun i z => by subst z; cases hbo
    have nb2 : ∀ i, eb ≠ .bor i := fun i z => by subst z; cases ea <;> cases hbo
    refine PI.imp (RZ.pi_zipA hg hm (pa_cons (ha.val W tk) (pa_cons (hb.val W tk) pa_nil (okSrc.st hs2 _ _)) (okSrc.st hs _ _)) (okSrc.st hs _ _) (by rw [okSrc.st hs2]; rfl)) fun σ H R q => ?_
    obtain ⟨env, P, er, q⟩ := q
    have q := ResG.bind q
    rw [tE_nb nb] at q
    refine ⟨env, P, er, q.map.imp fun v q H1 P1 x st r => ?_⟩
    obtain ⟨P3, st3, g3, r3⟩ := r.rv st
    have q := q.bind.at st3.s
    rw [tE_nb nb2] at q
    refine ⟨env, P3, er.grow st3, q.map.imp fun w q H' P' y st2 r2 => ?_⟩
    obtain ⟨P4, st4, g4, r4⟩ := r2.rv st2
    obtain ⟨v, fv⟩ := v
    obtain ⟨w, fw⟩ := w
    have r3 := r3.mono st4.s st4.g.1
    cases v <;> cases w <;> first | exact q.elim | skip
    case tup.tup vs ws =>
      cases r3 with
      | tup sa qa => cases r4 with
        | tup sb qb => exact ⟨_, _, _, _, rfl, .inr ⟨sa, sb, q _ H' P4 (st3.trans st4) (src_zipT (fun H P h => h) sa sb qa qb)⟩⟩
    case lst.lst vs ws =>
      cases r3 with
      | lst pa sa qa => cases r4 with
        | lst pb sb qb => exact ⟨_, _, _, _, rfl, .inl ⟨SqL.of sa, SqL.of sb, q _ H' P4 (st3.trans st4) (src_zipL (fun H P h => h) (fun H P h => h.1 _ _ sa (.inl pa)) (fun H P h => h.1 _ _ sb (.inl pb)) qa qb)⟩⟩
end
end G

set_option linter.all false
set_option maxHeartbeats 2000000
set_option maxRecDepth 100000
namespace G
open PySem PySem.Spec PyProof.Rows HT
open L2 hiding Takes XE CX takes_of passes_call ps_raise PMk MkP mk_of pmk_own passAt ps_try_as ps_try_many HdsOk
open L2N (Takes XE CX takes_of passes_call ps_raise PMk MkP mk_of pmk_own passAt)
theorem pers_updO {H : Hp} {P : Addr → Prop} {D : Addr} {o0 o : HO} (h : H D = some o0) (m : Mt o0) (n : ¬ P D) : Pers P H (upd H D o) := fun a u e q => by
  by_cases hb : a = D
  · subst hb
    rw [h] at e
    cases e
    rcases q with q | q
    · exact absurd q n
    · exact absurd q m.nf
  · rw [upd_ne hb]; exact e
theorem pers_upd {H : Hp} {P : Addr → Prop} {D : Addr} {xs : List V} {o : HO} (h : H D = some (.lst xs)) (n : ¬ P D) : Pers P H (upd H D o) := fun a u e q => by
  by_cases hb : a = D
  · subst hb
    rw [h] at e
    cases e
    rcases q with q | q
    · exact absurd q n
    · exact absurd q Mt.l.nf
  · rw [upd_ne hb]; exact e
theorem same_upd {H1 H : Hp} {D : Addr} {o : HO} (s : Same H1 H) (n : H1 D = none) : Same H1 (upd H D o) := fun a u e => by
  rw [upd_ne (ne_of_none e n)]
  exact s a u e
theorem noexc_ok' {α : Type} {r : G.R α} {a : α} (h : r.noexc = .ok a) : r = .ok a := by
  cases r <;> first | exact h | cases h
theorem lc_src {K : PySem.W.Frag} {CA : Nat → Option Addr} {H1 : Hp} {H0 : Bs} {P1 : Addr → Prop} {env : Env} {σ : L2.St} (er : ER K CA H0 H1 P1 env σ) {J : L2.It} {its : List Val} (src : Src K CA (SameR H1 P1) J its) {tg : Tg} {c : Env → G.R Bool} {f : Env → G.R Val} {tt : TT} {te : TE}
    (htt : ∀ env' σ' H P (Q : Bool → Hp → Prop) b, ER K CA H0 H P env' σ' → c env' = .ok b → (∀ H' P', Step P H P' H' → Q b H') → tt σ' H Q)
    (hte : ∀ env' σ' H P (Q : VK) v, ER K CA H0 H P env' σ' → f env' = .ok v → (∀ H' P' y, Step P H P' H' → RV K CA H' P' v y → Q y H') → te σ' H Q)
    {vs : List Val} (h : lcLoop tg (wipeE env (tgs tg)) c f its = .ok vs) (hz : lenOk its.length = true) {Q : VK}
    (q : ∀ D H P xs, H1 D = none → Step P1 H1 P H → ¬ P D → H D = some (.lst xs) → RVs K CA H P vs xs → Q (.ref D) H) : ∀ D, H1 D = none →
    ∃ W : Nat → Nat → Hp → Prop, (∃ m, W 0 m (upd H1 D (.lst []))) ∧ ∀ i m H, W i m H → (J.stop i H ∧ Q (.ref D) H) ∨ (J.go i H ∧ ∃ Nx : Hp → Prop, (∀ H', Nx H' → ∃ m', m' < m ∧ W (i + 1) m' H') ∧ ∀ x H', J.yld i H x H' →
      gT K tg x (L2.wipe σ (tgs tg)) H' fun σ2 H2 => L2.wipe σ2 (tgs tg) = L2.wipe σ (tgs tg) ∧ tt σ2 H2 fun b H3 =>
        if b = true then te σ2 H3 fun y H4 => ∃ acc, H4 D = some (.lst acc) ∧ acc.length < sizeLine ∧ Nx (upd H4 D (.lst (acc ++ [y]))) else Nx H3) := by
  intro D hD
  refine ⟨fun i m H => i ≤ its.length ∧ m = its.length - i ∧ ∃ P done acc rest, Step P1 H1 P H ∧ ¬ P D ∧ H D = some (.lst acc) ∧ RVs K CA H P done acc ∧ done.length ≤ i ∧ lcLoop tg (wipeE env (tgs tg)) c f (its.drop i) = .ok rest ∧ done ++ rest = vs, ?_, ?_⟩
  · exact ⟨_, Nat.zero_le _, rfl, P1, [], [], vs, step_new hD er.trk, er.trk.no hD, upd_same, .nil, Nat.le_refl _, by rw [List.drop_zero]; exact h, rfl⟩
  · rintro i m H ⟨hi, rfl, P, done, acc, rest, st, nD, eD, rd, hdl, hl, hv⟩
    by_cases hlt : i < its.length
    · right
      refine ⟨src.go i H P ⟨st.s, st.g.1⟩ hlt, fun H' => i + 1 ≤ its.length ∧ ∃ P done acc rest, Step P1 H1 P H' ∧ ¬ P D ∧ H' D = some (.lst acc) ∧ RVs K CA H' P done acc ∧ done.length ≤ i + 1 ∧ lcLoop tg (wipeE env (tgs tg)) c f (its.drop (i + 1)) = .ok rest ∧ done ++ rest = vs,
        fun H' n => ⟨its.length - (i + 1), by omega, n.1, rfl, n.2⟩, fun x H' hy => ?_⟩
      obtain ⟨sm, v, hv1, rv⟩ := src.yld i H P x H' ⟨st.s, st.g.1⟩ hlt hy
      have sY : Step P H P H' := ⟨sm, .refl, fun a z => by
        obtain ⟨ys, e, m⟩ := st.t a z
        exact ⟨ys, sm _ _ e, m⟩⟩
      have st := st.trans sY
      have eD := sm _ _ eD
      have rd := rd.mono sm fun _ z => z
      have ed : its.drop i = v :: its.drop (i + 1) := by
        rw [List.drop_eq_getElem_cons hlt]
        congr 1
        rw [List.getElem?_eq_getElem hlt] at hv1
        exact Option.some.inj hv1
      rw [ed] at hl
      obtain ⟨env', hb, hl⟩ := R.bind_eq_ok hl
      obtain ⟨b, hc, hl⟩ := R.bind_eq_ok hl
      refine bindT_ok ((er.grow st).wipe (tgs tg)) rv hb fun σ' er' hw => ⟨by rw [hw _ fun _ z => z, wipe_wipe], ?_⟩
      refine htt env' σ' _ P _ b er' hc fun H3 P3 st3 => ?_
      cases b with
      | false =>
        exact ⟨hlt, P3, done, acc, rest, st.trans st3, (fun z => (st3.g.2 D z).elim nD fun e => by rw [eD] at e; cases e), st3.s _ _ eD, rd.mono st3.s st3.g.1, by omega, hl, hv⟩
      | true =>
        have hl : ((f env').bind fun v => (lcLoop tg (wipeE env (tgs tg)) c f (its.drop (i + 1))).bind fun vs => R.ok (v :: vs)) = .ok rest := hl
        obtain ⟨w, hf, hl⟩ := R.bind_eq_ok hl
        obtain ⟨ws, hl2, hl⟩ := R.bind_eq_ok hl
        cases hl
        show te σ' H3 _
        refine hte env' σ' H3 P3 _ w (er'.grow st3) hf fun H4 P4 y st4 ry => ?_
        have nD3 : ¬ P3 D := fun z => (st3.g.2 D z).elim nD fun e => by rw [eD] at e; cases e
        have eD3 := st3.s _ _ eD
        have nD4 : ¬ P4 D := fun z => (st4.g.2 D z).elim nD3 fun e => by rw [eD3] at e; cases e
        have eD4 := st4.s _ _ eD3
        have rd4 := (rd.mono st3.s st3.g.1).mono st4.s st4.g.1
        have pu : Pers P4 H4 (upd H4 D (.lst (acc ++ [y]))) := pers_upd eD4 nD4
        have st' := (st.trans st3).trans st4
        refine ⟨acc, eD4, ?_, hlt, P4, done ++ [w], acc ++ [y], ws, ⟨same_upd st'.s hD, st'.g, fun a z => ?_⟩, nD4, upd_same, (RVs.pers pu (fun _ z => z) _ rd4).append (.cons (RV.pers pu (fun _ z => z) _ ry) .nil), by rw [List.length_append]; show _ + 1 ≤ _; omega, hl2, by rw [List.append_assoc]; exact hv⟩
        · rw [← rd.length]
          have h1 : its.length ≤ sizeLine := LIM_le hz
          omega
        · obtain ⟨ys, e, m⟩ := st'.t a z
          exact ⟨ys, pu a _ e (.inl z), m⟩
    · left
      have ei : i = its.length := by omega
      subst ei
      rw [List.drop_length] at hl
      cases hl
      rw [List.append_nil] at hv
      subst hv
      exact ⟨src.stop H P ⟨st.s, st.g.1⟩, q D H P acc hD st nD eD rd⟩
def PTsOk (CA : Nat → Option Addr) (cl : Nat → List Val → G.R (Val × Bool)) (H0 : Bs) (X : Cx) : List Expr → Option E → Prop
  | [], none => True
  | [src], some e => V3 CA cl H0 X src e
  | _, _ => False
def tC (K : PySem.W.Frag) (CA : Nat → Option Addr) (cl : Nat → List Val → G.R (Val × Bool)) (H0 : Bs) (o : Option E) : TT := match o with
  | none => tYes
  | some e => tT K CA cl H0 (fun _ _ _ _ => False) e
theorem v3_lc {X : Cx} {CA : Nat → Option Addr} {cl : Nat → List Val → G.R (Val × Bool)} {H0 : Bs} {elt tgsrc iter : Expr} {ifs : List Expr} {scope : Scope} {pos : Pos} {tg : Tg} {it : G.It} {cond : Option E} {el : E} {own : List (Str × Nat)}
    (hc : X.calm = true) (hN : X.N.Nodup) (hi : VI CA cl H0 X iter it) (hz : TupS it tgsrc) (ok : BlkOk X.N X.env.scope scope own) (ho : own.map (·.2) = tgs tg)
    (hg : ∀ (s : Shared) (H : Hp) (C : Addr) (cl : List (Str × Addr)) (fp : List Addr), TgP (X.blk s H scope (compEnvC scope cl C X.env) fp) tgsrc tg)
    (ht : ∀ (s : Shared) (H : Hp) (C : Addr) (cl' : List (Str × Addr)) (fp : List Addr), PTsOk CA cl H0 (X.blk s H scope (compEnvC scope cl' C X.env) fp) ifs cond)
    (he : ∀ (s : Shared) (H : Hp) (C : Addr) (cl' : List (Str × Addr)) (fp : List Addr), V3 CA cl H0 (X.blk s H scope (compEnvC scope cl' C X.env) fp) elt el) :
    (∀ W, Takes X W → ∀ σ H Q, tE X.K CA cl H0 W (.lc tg it cond el) σ H Q → tLc (tI X.K CA cl H0 W SameR it) (gT X.K tg) (tC X.K CA cl H0 cond) (tE X.K CA cl H0 (fun _ _ _ _ => False) el) (own.map (·.2)) σ H Q) ∧
    V3 CA cl H0 X (.ListComp elt [⟨tgsrc, iter, ifs, 0⟩] scope pos) (.lc tg it cond el) := by
  have imp : ∀ W, Takes X W → ∀ σ H Q, tE X.K CA cl H0 W (.lc tg it cond el) σ H Q → tLc (tI X.K CA cl H0 W SameR it) (gT X.K tg) (tC X.K CA cl H0 cond) (tE X.K CA cl H0 (fun _ _ _ _ => False) el) (own.map (·.2)) σ H Q := by
    intro W tk σ H Q q
    obtain ⟨env, P, er, q⟩ := q
    refine ⟨env, P, er, (ResG.bind q).imp fun its q J H1 P1 st src => ?_⟩
    cases hz : lenOk its.length with
    | false => rw [hz] at q; exact q.elim
    | true =>
      rw [hz] at q
      have q : ResG CA H σ W (fun p => Out X.K CA H P p Q) ((lcLoop tg (wipeE env (tgs tg)) (fun env' => (evC cl cond env').noexc) (fun env' => ((evE cl el env').map (·.1)).noexc) its).bind fun vs => .ok (.lst vs, true)) := q
      have ne : ∀ c, lcLoop tg (wipeE env (tgs tg)) (fun env' => (evC cl cond env').noexc) (fun env' => ((evE cl el env').map (·.1)).noexc) its ≠ .exc c := by
        have : ∀ (xs : List Val) (c : Nat), lcLoop tg (wipeE env (tgs tg)) (fun env' => (evC cl cond env').noexc) (fun env' => ((evE cl el env').map (·.1)).noexc) xs ≠ .exc c := by
          intro xs
          induction xs with
          | nil => intro c e; cases e
          | cons x xs ih =>
            intro c e
            unfold lcLoop at e
            have bne : ∀ c, bindT tg (wipeE env (tgs tg)) x ≠ .exc c := by
              intro c e
              have pne : ∀ (is : List Nat) (vs : List Val) (env : Env), putAll env is vs ≠ .exc c := by
                intro is
                induction is with
                | nil => intro vs env e; cases vs <;> cases e
                | cons i is ih => intro vs env e; cases vs with
                  | nil => cases e
                  | cons v vs => exact ih vs _ e
              unfold bindT at e
              split at e
              · cases e
              · split at e
                · split at e
                  · exact pne _ _ _ e
                  · cases e
                · cases e
            cases e1 : bindT tg (wipeE env (tgs tg)) x with
            | exc z => exact bne z e1
            | bad => rw [e1] at e; cases e
            | ok env' =>
              rw [e1] at e
              have e : (((evC cl cond env').noexc).bind fun b => if b then (((evE cl el env').map (·.1)).noexc).bind fun v => (lcLoop tg (wipeE env (tgs tg)) (fun env' => (evC cl cond env').noexc) (fun env' => ((evE cl el env').map (·.1)).noexc) xs).bind fun vs => .ok (v :: vs) else lcLoop tg (wipeE env (tgs tg)) (fun env' => (evC cl cond env').noexc) (fun env' => ((evE cl el env').map (·.1)).noexc) xs) = R.exc c := e
              cases e2 : evC cl cond env' with
              | exc z => rw [e2] at e; cases e
              | bad => rw [e2] at e; cases e
              | ok b =>
                rw [e2] at e
                cases b with
                | false => exact ih c e
                | true =>
                  have e : ((((evE cl el env').map (·.1)).noexc).bind fun v => (lcLoop tg (wipeE env (tgs tg)) (fun env' => (evC cl cond env').noexc) (fun env' => ((evE cl el env').map (·.1)).noexc) xs).bind fun vs => .ok (v :: vs)) = R.exc c := e
                  cases e3 : (evE cl el env').map (·.1) with
                  | exc z => rw [e3] at e; cases e
                  | bad => rw [e3] at e; cases e
                  | ok v =>
                    rw [e3] at e
                    have e : ((lcLoop tg (wipeE env (tgs tg)) (fun env' => (evC cl cond env').noexc) (fun env' => ((evE cl el env').map (·.1)).noexc) xs).bind fun vs => .ok (v :: vs)) = R.exc c := e
                    cases e4 : lcLoop tg (wipeE env (tgs tg)) (fun env' => (evC cl cond env').noexc) (fun env' => ((evE cl el env').map (·.1)).noexc) xs with
                    | exc z => exact ih z e4
                    | bad => rw [e4] at e; cases e
                    | ok vs => rw [e4] at e; cases e
        exact this its
      cases e1 : lcLoop tg (wipeE env (tgs tg)) (fun env' => (evC cl cond env').noexc) (fun env' => ((evE cl el env').map (·.1)).noexc) its with
      | exc c => exact absurd e1 (ne c)
      | bad => rw [e1] at q; exact q.elim
      | ok vs =>
        rw [e1] at q
        have q : Out X.K CA H P (.lst vs, true) Q := q
        rw [ho]
        refine lc_src (er.grow st) src (c := fun env' => (evC cl cond env').noexc) (f := fun env' => ((evE cl el env').map (·.1)).noexc) ?_ ?_ e1 hz fun D H2 P2 xs nD st2 nP eD rv => ?_
        · intro env' σ' H P Q b er' hcb k
          have hcb := noexc_ok' hcb
          cases cond with
          | none =>
            cases hcb
            exact k H P (.refl er'.trk)
          | some e =>
            refine ⟨env', P, er', ?_⟩
            have : evT cl e env' = .ok b := hcb
            rw [this]
            exact fun H' P' st => k H' P' st
        · intro env' σ' H P Q v er' hf k
          have hf := noexc_ok' hf
          refine ⟨env', P, er', ?_⟩
          cases e2 : evE cl el env' with
          | exc c => rw [e2] at hf; cases hf
          | bad => rw [e2] at hf; cases hf
          | ok p =>
            rw [e2] at hf
            cases hf
            intro H' P' y st r
            obtain ⟨P3, st3, g3, r3⟩ := r.rv st
            exact k H' P3 y st3 r3
        · exact q H2 P2 (.ref D) (st.trans st2) (.inr ⟨rfl, D, _, rfl, st.s.free nD, eD, nP, .lst rv⟩)
  refine ⟨imp, .of (by intro i z; cases z) rfl fun W tk => ?_⟩
  refine (pe_lc (wi := tI X.K CA cl H0 W SameR it) (g := gT X.K tg) (tt := tC X.K CA cl H0 cond) (te := tE X.K CA cl H0 (fun _ _ _ _ => False) el) hc hN (hi.comp W tgsrc tk hz) ok (fun s H C cl fp => pg_tg hN hc (hg s H C cl fp)) (fun s H C cl' fp => ?_) (fun s H C cl' fp => (he s H C cl' fp).val _ takes0') (fun x => hi.fs _ x)).imp fun σ H Q q => imp W tk σ H Q q
  have h := ht s H C cl' fp
  match ifs, cond, h with
  | [], none, _ => exact pts_nil
  | [src], some e, h => exact pts_one (h.tst _ takes0')
end G

set_option linter.all false
set_option maxHeartbeats 2000000
set_option maxRecDepth 100000
namespace G
open PySem PySem.Spec PyProof.Rows HT
open L2 hiding Takes XE CX takes_of passes_call ps_raise PMk MkP mk_of pmk_own passAt ps_try_as ps_try_many HdsOk
open L2N (Takes XE CX takes_of passes_call ps_raise PMk MkP mk_of pmk_own passAt)
def tLenSetT (K : PySem.W.Frag) (ta : TE) : TE := fun σ H Q => ta σ H fun x H1 => ∃ (l : Addr) (ks : List (Addr × List Int)), x = V.ref l ∧ SqL K H1 l (ks.map fun p => V.ref p.1) ∧ (∀ p ∈ ks, SqT K H1 p.1 (p.2.map V.int)) ∧ ks.length < 64 ∧ (ks.map (·.2)).Nodup ∧ Q (.int ks.length) H1
theorem same_len {α : Type} {l m : List α} (h1 : l.Nodup) (h2 : m.Nodup) (a : ∀ x ∈ l, x ∈ m) (b : ∀ x ∈ m, x ∈ l) : l.length = m.length := by
  have go : ∀ (l m : List α), l.Nodup → (∀ x ∈ l, x ∈ m) → l.length ≤ m.length := by
    intro l
    induction l with
    | nil => intro m _ _; exact Nat.zero_le _
    | cons x l ih =>
      intro m hn hs
      obtain ⟨g1, g2⟩ := List.nodup_cons.mp hn
      obtain ⟨s, t, e⟩ := List.append_of_mem (hs x List.mem_cons_self)
      subst e
      have := ih (s ++ t) g2 fun y hy => by
        have hy2 := hs y (List.mem_cons_of_mem _ hy)
        simp only [List.mem_append, List.mem_cons] at hy2 ⊢
        rcases hy2 with w | w | w
        · exact .inl w
        · subst w; exact absurd hy g1
        · exact .inr w
      simp at this ⊢; omega
  exact Nat.le_antisymm (go l m h1 a) (go m l h2 b)
theorem pe_lenSetT {X : Cx} {a : Expr} {ta : TE} {p p2 q pos : Pos} (hc : X.calm = true) (hu : X.A.units + 64 < cLine) (hg : Gl X "len") (hm : X.mg "len" = none) (hg2 : Gl X "set") (hm2 : X.mg "set" = none) (ha : PE X a ta)
    (na : starEach [a] X.env = (false, eval a X.env) :: starEach [] X.env) : PE X (.Call (.Name "len" p) [.Call (.Name "set" p2) [a] [] q] [] pos) (tLenSetT X.K ta) := by
  refine ⟨fun pins s σ H Q I h => ?_⟩
  refine Call_ (ld_blt I hg hm PySem.boot_len ?_)
  refine PyProof.Rows.callWith_builtin1 (PyProof.Rows.args_cons ?_ rfl) rfl rfl
  refine Call_ (ld_blt I hg2 hm2 PyProof.Rows.boot_set ?_)
  refine PyProof.Rows.callWith_type1 (PyProof.Rows.args_cons (thn (ha.run pins s σ H _ I h) fun v s1 ⟨x, H1, I1, r1, q1⟩ => PyProof.Rows.args_nil ?_) na) na rfl
  obtain ⟨l, ks, rfl, hq, hk, hf, hnd, q1⟩ := q1
  cases r1
  obtain ⟨its, rv, pl, hz⟩ := I1.list hq
  refine call_set_tups (P := X.prog) (w := X.w) ks (I1.ok.hd hc) pl.isList (by simpa using refs_of_vals rv) (fun p hp => I1.isT (hk p hp)) hf (by omega) fun h' tk L es ep t R g k => ?_
  have I2 : Inv X pins σ H1 { s1 with heap := h', toks := tk } := I1.kept k
  refine PyProof.Rows.args_nil ?_
  have len : L.length = ks.length := by
    have e := same_len R.nd hnd (fun x hx => by
      obtain ⟨p, hp, e⟩ := List.mem_map.mp hx
      exact List.mem_map.mpr ⟨p, List.mem_of_mem_take (g.sub p hp), e⟩) (fun x hx => by
      obtain ⟨p, hp, e⟩ := List.mem_map.mp hx
      rw [← e]
      exact g.all p (by rw [List.take_length]; exact hp))
    rw [List.length_map, List.length_map] at e
    exact e
  obtain ⟨o, ho, hex, hd⟩ := R.ob
  have es' : es.size = L.length := R.size (s := { s1 with heap := h', toks := tk })
  exact call_len_set ho hex hd (R.fits (s := { s1 with heap := h', toks := tk })) (by rw [es'] <;> omega) ⟨.int ks.length, H1, I2.tok _, ⟨_, by rw [es', len]⟩, q1⟩
theorem tupsOf_rv {K : PySem.W.Frag} {CA : Nat → Option Addr} {H : Hp} {P : Addr → Prop} : ∀ {vs : List Val} {xs : List V} {ks : List (List Int)}, tupsOf vs = some ks → RVs K CA H P vs xs → ∃ ps : List (Addr × List Int), xs = ps.map (fun p => V.ref p.1) ∧ ps.map (·.2) = ks ∧ ∀ p ∈ ps, SqT K H p.1 (p.2.map V.int)
  | _, _, _, e, .nil => by cases e; exact ⟨[], rfl, rfl, by simp⟩
  | .tup ws :: vs, _, ks, e, .cons r t => by
    simp only [tupsOf] at e
    cases h : intsOf ws with
    | none => rw [h] at e; cases e
    | some ms =>
      rw [h] at e
      cases h2 : tupsOf vs with
      | none => rw [h2] at e; cases e
      | some ls =>
        rw [h2] at e
        cases e
        cases r with
        | @tup a ys _ s t1 =>
          obtain ⟨ps, e1, e2, e3⟩ := tupsOf_rv h2 t
          have ey := intsOf_rv h t1
          refine ⟨(a, ms) :: ps, by rw [e1]; rfl, by rw [List.map_cons, e2], fun p hp => ?_⟩
          rcases List.mem_cons.mp hp with rfl | hp
          · rw [← ey]; exact s
          · exact e3 p hp
  | .non :: _, _, _, e, _ => by cases e
  | .bl _ :: _, _, _, e, _ => by cases e
  | .str _ :: _, _, _, e, _ => by cases e
  | .int _ :: _, _, _, e, _ => by cases e
  | .lst _ :: _, _, _, e, _ => by cases e
  | .exc _ :: _, _, _, e, _ => by cases e
  | .scr _ :: _, _, _, e, _ => by cases e
  | .hid :: _, _, _, e, _ => by cases e
section
variable {X : Cx} {CA : Nat → Option Addr} {cl : Nat → List Val → G.R (Val × Bool)} {H0 : Bs} {a : Expr} {ea : E} {p p2 q pos : Pos}
theorem v3_ls (hc : X.calm = true) (hu : X.A.units + 64 < cLine) (hg : Gl X "len") (hm : X.mg "len" = none) (hg2 : Gl X "set") (hm2 : X.mg "set" = none) (hs : okSrc a = true) (ha : V3 CA cl H0 X a ea) : V3 CA cl H0 X (.Call (.Name "len" p) [.Call (.Name "set" p2) [a] [] q] [] pos) (.ls ea) :=
  .of (by intro i z; cases z) rfl fun W tk => (pe_lenSetT hc hu hg hm hg2 hm2 (ha.opd W tk) (okSrc.st hs _ _)).imp fun σ H Q q => by
    obtain ⟨env, P, er, q⟩ := q
    refine ⟨env, P, er, (ResG.bind q).imp fun v q H1 P1 x st1 r => ?_⟩
    have q := q.map
    revert q
    cases v <;> first | exact fun q => q.elim | intro q
    case lst vs q =>
      obtain ⟨l, xs, rfl, sl, rv⟩ := r.lst
      unfold evLs at q
      dsimp only at q
      cases e : tupsOf vs with
      | none => rw [e] at q; exact q.elim
      | some ks =>
        rw [e] at q
        dsimp only at q
        split at q
        · rename_i hcnd
          rw [Bool.and_eq_true, decide_eq_true_iff, decide_eq_true_iff] at hcnd
          obtain ⟨ps, e1, e2, e3⟩ := tupsOf_rv e rv
          subst e1 e2
          have ll : (ps.map (·.2)).length = ps.length := List.length_map ..
          refine ⟨l, ps, rfl, SqL.of sl, e3, by rw [← ll]; exact hcnd.2, hcnd.1, ?_⟩
          have q : Out X.K CA H P (.int ((ps.map (·.2)).length : Nat), false) Q := q
          rw [ll] at q
          exact (Out.at q st1).int st1.t
        · exact q.elim
theorem strsOf_rv {K : PySem.W.Frag} {CA : Nat → Option Addr} {H : Hp} {P : Addr → Prop} : ∀ {vs : List Val} {xs : List V} {ns : List Str}, strsOf vs = some ns → RVs K CA H P vs xs → xs = ns.map V.str
  | _, _, _, e, .nil => by cases e; rfl
  | .str i :: vs, _, ns, e, .cons r t => by
    simp only [strsOf] at e
    cases h : strsOf vs with
    | none => rw [h] at e; cases e
    | some ms =>
      rw [h] at e
      cases e
      cases r
      rw [strsOf_rv h t]; rfl
  | .non :: _, _, _, e, _ => by cases e
  | .bl _ :: _, _, _, e, _ => by cases e
  | .int _ :: _, _, _, e, _ => by cases e
  | .tup _ :: _, _, _, e, _ => by cases e
  | .lst _ :: _, _, _, e, _ => by cases e
  | .exc _ :: _, _, _, e, _ => by cases e
  | .scr _ :: _, _, _, e, _ => by cases e
  | .hid :: _, _, _, e, _ => by cases e
theorem v3_jn {s : Str} {n : Nat} {pa p1 pc : Pos} (hline : (pa.endLine == pc.line) = true) (hs : okSrc a = true) (ha : V3 CA cl H0 X a ea) : V3 CA cl H0 X (.Call (.Attribute (.Constant (.str s) n p1) "join" pa) [a] [] pc) (.jn s ea) :=
  .of (by intro i z; cases z) rfl fun W tk => (pe_join pe_str (ha.opd W tk) (okSrc.st hs _ _) rfl hline).imp fun σ H Q q => by
    obtain ⟨env, P, er, q⟩ := q
    refine ⟨⟨s, rfl⟩, env, P, er, (ResG.bind q).imp fun v q H1 P1 x st1 r => ?_⟩
    have q := q.map
    revert q
    cases v <;> first | exact fun q => q.elim | intro q
    case lst vs q =>
      obtain ⟨l, xs, rfl, sl, rv⟩ := r.lst
      unfold evJn at q
      dsimp only at q
      cases e : strsOf vs with
      | none => rw [e] at q; exact q.elim
      | some ys =>
        rw [e] at q
        dsimp only at q
        split at q
        · rename_i hc
          have hc := of_decide_eq_true hc
          have ex := strsOf_rv e rv
          subst ex
          have q : Out X.K CA H P (.str (Txt.join s ys), false) Q := q
          exact ⟨s, l, ys, rfl, rfl, .inl (SqL.of sl), hc, (Out.at q st1).str st1.t⟩
        · exact q.elim
theorem v3_pt {s : Str} {n : Nat} {pa p1 pc : Pos} (hline : (pa.endLine == pc.line) = true) (hbase : attributeBase a "partition" X.env (eval a X.env) = eval a X.env) (ha : V3 CA cl H0 X a ea) : V3 CA cl H0 X (.Call (.Attribute a "partition" pa) [.Constant (.str s) n p1] [] pc) (.pt ea s) :=
  .of (by intro i z; cases z) rfl fun W tk => (pe_partition (ha.opd W tk) pe_str rfl hbase hline).imp fun σ H Q q => by
    obtain ⟨env, P, er, q⟩ := q
    refine ⟨env, P, er, (ResG.bind q).imp fun v q H1 P1 x st1 r => ?_⟩
    have q := q.map
    revert q
    cases v <;> first | exact fun q => q.elim | intro q
    case str b q =>
      cases r.str
      unfold evPt at q
      dsimp only at q
      split at q
      · rename_i hc
        rw [Bool.and_eq_true, Bool.not_eq_true'] at hc
        have q : Out X.K CA H P (.tup [.str (Txt.partition b s).1, .str (Txt.partition b s).2.1, .str (Txt.partition b s).2.2], false) Q := q
        exact ⟨⟨b, rfl⟩, b, s, rfl, rfl, hc.1, LIM_le hc.2, (Out.at q st1).newT st1.t (.cons (.str _) (.cons (.str _) (.cons (.str _) .nil)))⟩
      · exact q.elim
theorem strs_rv {K : PySem.W.Frag} {H : Hp} {P : Addr → Prop} : ∀ ys : List Str, RVs K CA H P (ys.map Val.str) (ys.map V.str)
  | [] => .nil
  | y :: ys => .cons (.str y) (strs_rv ys)
theorem v3_sp {s : Str} {n : Nat} {pa p1 pc : Pos} (hline : (pa.endLine == pc.line) = true) (hbase : attributeBase a "split" X.env (eval a X.env) = eval a X.env) (ha : V3 CA cl H0 X a ea) : V3 CA cl H0 X (.Call (.Attribute a "split" pa) [.Constant (.str s) n p1] [] pc) (.sp ea s) :=
  .of (by intro i z; cases z) rfl fun W tk => (pe_split (ha.opd W tk) pe_str rfl hbase hline).imp fun σ H Q q => by
    obtain ⟨env, P, er, q⟩ := q
    refine ⟨env, P, er, (ResG.bind q).imp fun v q H1 P1 x st1 r => ?_⟩
    have q := q.map
    revert q
    cases v <;> first | exact fun q => q.elim | intro q
    case str b q =>
      cases r.str
      unfold evSp at q
      dsimp only at q
      split at q
      · rename_i hc
        rw [Bool.and_eq_true, Bool.not_eq_true'] at hc
        have q : Out X.K CA H P (.lst ((Txt.split b s).map .str), true) Q := q
        exact ⟨⟨b, rfl⟩, b, s, rfl, rfl, hc.1, LIM_le hc.2, (Out.at q st1).newL st1.t (strs_rv _)⟩
      · exact q.elim
end
end G

set_option linter.all false
set_option maxHeartbeats 2000000
set_option maxRecDepth 100000
namespace G
open PySem PySem.Spec PyProof.Rows HT HotX
open L2 hiding Takes XE CX takes_of passes_call ps_raise PMk MkP mk_of pmk_own passAt ps_try_as ps_try_many HdsOk
open L2N (Takes XE CX takes_of passes_call ps_raise PMk MkP mk_of pmk_own passAt)
section
variable {prog : Program} {w : World} {A : Around} {E : Value → Shared → Prop} {s : Shared}
theorem list_end_hot {it l x1 : Addr} {i : Nat} {items : Array Value} {Q : Option Value → Shared → Prop} (hot : HotAt A x1 s.heap) (hne : x1 ≠ it)
    (hit : s.heap.IsListIter it l i) (hl : s.heap.IsList l items) (hx : items[i]? = none)
    (hQ : ∀ h', Heap.ExtBut it s.heap h' → Q none { s with heap := h' }) : wpAny (model prog w) A (pyNext (.ref it)) Q E s := by
  obtain ⟨o, ho, hc, hd⟩ := id hit
  obtain ⟨ol, hol, _, nl, hdl⟩ := hl
  obtain ⟨hh, o1, vs1, h1, d1, c1⟩ := hot
  unfold pyNext
  refine wpAny_bind (wpAny_attempt (wpAny_callSpecial?_slot (name := Str.ofString "__next__") hit.typeIs slot_listiter_next
    (wpAny_call_entry slot_listiter_next hit.typeIs entry_listiter_next ?_ (args_listiter_next _))))
  show wpAny _ _ (field (.ref it) 0 >>= _) _ _ s
  refine wpAny_bind (wpAny_field ho hd (x := .ref l) rfl ?_)
  show wpAny _ _ (if (Value.ref l == Value.none) = true then _ else _) _ _ s
  rw [if_neg (show ¬ ((Value.ref l == Value.none) = true) from Bool.false_ne_true)]
  show wpAny _ _ (field (.ref it) 1 >>= _) _ _ s
  refine wpAny_bind (wpAny_field ho hd (x := .int i 0) rfl ?_)
  show wpAny _ _ (seqItems? (.ref l) >>= _) _ _ s
  refine wpAny_bind (wpAny_seqItems hol hdl ?_)
  simp only [Int.toNat_natCast, hx]
  refine wpAny_bind (wpAny_rule (wpAny_bind (wpAny_setField ho hd (by simp) ?_)))
  have h1' : (s.heap.update it (Obj.mapFields (·.setIfInBounds 0 Value.none))).get? x1 = some o1 := (Heap.get?_update_other _ _ (Ne.symm hne)).trans h1
  show wpAny _ _ (newExc (.type "StopIteration") [] >>= _) _ _ _
  refine wpAny_bind ?_
  simp only [newExc, newTuple]
  refine wpAny_bind (wpAny_newObj_type ?_ (by size_fits))
  refine wpAny_bind (m := firstArgMember _ _) (wpAny_of_eq (a := Value.none) (by first | rfl | (simp only [firstArgMember]; rfl)) ?_)
  refine wpAny_newObj_type ?_ (by size_fits)
  refine raiseNew_hot ⟨hh, o1, vs1, Heap.get?_push_of_some _ (Heap.get?_push_of_some _ h1'), d1, c1⟩ (Nat.ne_of_lt (Heap.lt_size (Heap.get?_push_of_some _ h1'))) (Heap.get?_push_size _ rfl) rfl (by first | (simp; done) | (simp; omega) | (simp only [Array.size_append]; simp; omega)) ?_
  refine wpAny_bind (wpAny_isInstance (T := "StopIteration") (b := true) ⟨_, Heap.get?_update_self _ (Heap.get?_push_size _ rfl) rfl, rfl⟩ isSubtype_stop ?_)
  refine wpAny_pure (hQ _ fun b o' hb e => ?_)
  have eb : (s.heap.update it (Obj.mapFields (·.setIfInBounds 0 Value.none))).get? b = some o' := (Heap.get?_update_other _ _ (Ne.symm hb)).trans e
  rw [Heap.get?_update_other _ _ (Ne.symm (Nat.ne_of_lt (Heap.lt_size (Heap.get?_push_of_some _ eb))))]
  exact Heap.get?_push_of_some _ (Heap.get?_push_of_some _ eb)
theorem HotAt.at' {x1 : Addr} {h h' : Heap} (x : HotAt A x1 h) (k : ∀ o, h.get? x1 = some o → h'.get? x1 = some o) : HotAt A x1 h' := by
  obtain ⟨hh, o1, vs1, h1, d1, c1⟩ := x
  exact ⟨hh, o1, vs1, k _ h1, d1, c1⟩
theorem walks_hot (I ax x1 : Addr) (hne : ax ≠ I) (hx : x1 ≠ I) (items : Array Value) :
    WalksS prog w A I [I, ax, x1] [I] (fun a b => b = a) items.size (fun i v => items[i]? = some v) (fun i s => s.heap.IsListIter I ax i ∧ s.heap.IsList ax items ∧ HotAt A x1 s.heap) where
  sub := fun b hb => by simp at hb; simp [hb]
  grefl := fun _ => rfl
  gtrans := fun _ _ _ h k => k.trans h
  frame := fun _ s h' _ st _ hk => ⟨st.1.at fun o e => hk I (by simp) o e, st.2.1.at fun o e => hk ax (by simp) o e, HotAt.at' st.2.2 fun o e => hk x1 (by simp) o e⟩
  item := fun i s Q E hi st hQ => by
    refine wpAny_pyNext_list_item st.1 st.2.1 (x := items[i]) (by simp [hi]) fun h' hit' hs' => ?_
    exact hQ _ { s with heap := h' } (by simp [hi]) ⟨hit', st.2.1.extBut hs'.extBut hne, HotAt.at' st.2.2 fun o e => hs'.extBut x1 o hx e⟩ ⟨fun b o hb e => hs'.extBut b o (fun h => hb (by simp [h])) e, rfl, rfl, rfl, Nat.le_refl _⟩
  done := fun s Q E st hQ => list_end_hot st.2.2 hx st.1 st.2.1 (by simp) fun h' he' => hQ { s with heap := h' } ⟨fun b o hb e => he' b o (fun h => hb (by simp [h])) e, rfl, rfl, rfl, Nat.le_refl _⟩
  self := fun _ _ _ _ st hQ => wpAny_pyIter_listiter st.1 hQ
theorem sum_hot {l x1 : Addr} {items : Array Value} {val : Nat → Int} {Q : Value → Shared → Prop} (hot : HotAt A x1 s.heap) (hl : s.heap.IsList l items) (hv : ∀ i v, items[i]? = some v → NumOf (val i) v)
    (h : ∀ h' tk t', (∀ b o, s.heap.get? b = some o → h'.get? b = some o) → Q (.int (preSum val items.size) t') { s with heap := h', toks := tk }) : wpAny (model prog w) A (call (.builtin "sum") [.ref l]) Q E s := by
  have hlt : l < s.heap.objs.size := by obtain ⟨_, e, _⟩ := hl; exact Heap.lt_size e
  have hlx : x1 < s.heap.objs.size := by obtain ⟨_, _, _, e, _⟩ := hot; exact Heap.lt_size e
  refine call_sum_walkAnyB (wpAny_pyIter_list hl ?_)
  refine ⟨s.heap.objs.size, _, _, _, _, _, _, val, rfl, walks_hot (A := A.in1) s.heap.objs.size l x1 (Nat.ne_of_lt hlt) (Nat.ne_of_lt hlx) items, ⟨⟨_, Heap.get?_push_size _ rfl, rfl, rfl⟩, hl.push _, HotAt.at' hot fun o e => Heap.get?_push_of_some _ e⟩, fun b hb => ?_, hv, fun s' t' hm => ?_⟩
  · show b < (s.heap.push _).objs.size
    rw [Heap.size_push]
    simp at hb
    rcases hb with rfl | rfl | rfl
    · exact Nat.lt_succ_self _
    · exact Nat.lt_succ_of_lt hlt
    · exact Nat.lt_succ_of_lt hlx
  · obtain ⟨hp, g, d, tk, os⟩ := s'
    obtain ⟨m1, m2, m3, m4, m5⟩ := hm
    have m2 : g = s.gens := m2
    have m3 : d = s.drawn := m3
    have m4 : os = s.os := m4
    subst m2 m3 m4
    exact h hp tk t' fun b o e => m1 b o (fun hb => by
      simp at hb
      have := Heap.lt_size e
      rw [hb] at this
      exact Nat.lt_irrefl _ this) (Heap.get?_push_of_some _ e)
end
def rSumB (X : Cx) : List V → Hp → VK → Prop := fun vs H Q => ∃ (a x1 : Addr) (bs : List Bool) (cls : Value), vs = [V.ref a] ∧ SqL X.K H a (bs.map V.bl) ∧ X.A.handled = some (.ref x1) ∧ H x1 = some (ExT cls x1) ∧ Q (.int (boolSum bs)) H
theorem pre_bools : ∀ (bs : List Bool) (k : Nat), k ≤ bs.length → preSum (fun i => if bs.getD i false then 1 else 0) k = boolSum (bs.take k)
  | bs, 0, _ => by show (0 : Int) = boolSum (bs.take 0); rw [List.take_zero]; rfl
  | bs, k + 1, h => by
    have app : ∀ (l m : List Bool), boolSum (l ++ m) = boolSum l + boolSum m := fun l m => by
      induction l with
      | nil => show boolSum m = 0 + boolSum m; omega
      | cons b l ih => show (if b then 1 else 0) + boolSum (l ++ m) = ((if b then 1 else 0) + boolSum l) + boolSum m; rw [ih]; omega
    show preSum _ k + _ = _
    rw [pre_bools bs k (by omega), List.take_add_one, app]
    congr 1
    rw [List.getElem?_eq_getElem (by omega)]
    show (if bs.getD k false then (1 : Int) else 0) = (if bs[k] then 1 else 0) + 0
    rw [List.getD_eq_getElem?_getD, List.getElem?_eq_getElem (by omega)]
    show (if bs[k] then (1 : Int) else 0) = _
    omega
theorem vals_bl : ∀ {bs : List Bool} {us : List Value}, Vals (bs.map V.bl) us → us = bs.map Value.bool
  | [], _, r => by cases r; rfl
  | b :: bs, _, r => by
    cases r with
    | cons h t => rw [vals_bl t, show _ = Value.bool b from h]; rfl
theorem cr_sumB {X : Cx} : CallR X (.builtin "sum") (rSumB X) := by
  intro pins s σ H vs us Q I r h
  obtain ⟨a, x1, bs, cls, rfl, hs, hh, hx, q⟩ := h
  obtain ⟨its, rv, hl, _⟩ := I.list hs
  rw [Vals.ref1 r]
  obtain ⟨⟨oe, vs, hg, hz, hd⟩, _⟩ := (show ObjOk X.prog X.w H s.heap x1 (ExT cls x1) from I.hok x1 _ hx)
  have e := vals_bl rv
  refine sum_hot (x1 := x1) (val := fun i => if bs.getD i false then 1 else 0) ⟨hh, oe, vs, hg, hd, hz.2.2 vs hd⟩ hl.isList (fun i v hv => ?_) fun h' tk t' hk => ⟨.int _, H, I.kept hk, ⟨_, rfl⟩, ?_⟩
  · have hv' : its[i]? = some v := by simpa using hv
    rw [e, List.getElem?_map] at hv'
    cases eb : bs[i]? with
    | none => rw [eb] at hv'; cases hv'
    | some b =>
      rw [eb] at hv'
      cases hv'
      exact .inr ⟨b, rfl, by rw [List.getD_eq_getElem?_getD, eb]; rfl⟩
  · have el : its.toArray.size = bs.length := by rw [e]; simp
    rw [el, pre_bools bs bs.length (Nat.le_refl _), List.take_length]
    exact q
def HotS (H0 : Bs) (X : Cx) : Prop := ∃ (x1 : Addr) (cls : Value), X.A.handled = some (.ref x1) ∧ H0.h x1 = some (ExT cls x1)
section
variable {X : Cx} {CA : Nat → Option Addr} {cl : Nat → List Val → G.R (Val × Bool)} {H0 : Bs} {a : Expr} {ea : E} {p pos : Pos}
theorem v3_sm (hot : HotS H0 X) (hg : Gl X "sum") (hm : X.mg "sum" = none) (hs : okSrc a = true) (ha : V3 CA cl H0 X a ea) : V3 CA cl H0 X (.Call (.Name "sum" p) [a] [] pos) (.sm ea) :=
  .of (by intro i z; cases z) rfl fun W tk => (pe_callB cr_sumB hg hm boot_sum (pa_cons (ha.opd W tk) pa_nil (okSrc.st hs _ _)) (by decide) (by decide) (okSrc.st hs _ _) rfl).imp fun σ H Q q => by
    obtain ⟨env, P, er, q⟩ := q
    refine ⟨env, P, er, (ResG.bind q).imp fun v q H1 P1 x st1 r => ?_⟩
    have q := q.map
    revert q
    cases v <;> first | exact fun q => q.elim | intro q
    case lst vs q =>
      obtain ⟨l, xs, rfl, sl, rv⟩ := r.lst
      unfold evSm at q
      dsimp only at q
      cases e : boolsOf vs with
      | none => rw [e] at q; exact q.elim
      | some bs =>
        rw [e] at q
        have ex := boolsOf_rv e rv
        subst ex
        obtain ⟨x1, cls, hh, hx⟩ := hot
        have q : Out X.K CA H P (.int (boolSum bs), false) Q := q
        exact ⟨l, x1, bs, cls, rfl, SqL.of sl, hh, st1.s _ _ (er.ext _ _ hx), (Out.at q st1).int st1.t⟩
end
end G

set_option linter.all false
set_option maxHeartbeats 2000000
set_option maxRecDepth 100000
namespace G
open PySem PySem.Spec PyProof.Rows HT
open L2 hiding Takes XE CX takes_of passes_call ps_raise PMk MkP mk_of pmk_own passAt ps_try_as ps_try_many HdsOk
open L2N (Takes XE CX takes_of passes_call ps_raise PMk MkP mk_of pmk_own passAt)
section
variable {X : Cx}
theorem cstE_ok {src : Expr} {v : Val} (h : cstE src = some v) : PE X src (L2.tC (toV v)) ∧ flat v = true := by
  unfold cstE at h
  split at h <;> cases h
  · exact ⟨pe_int, rfl⟩
  · exact ⟨pe_str, rfl⟩
  · exact ⟨pe_bl, rfl⟩
  · exact ⟨pe_non, rfl⟩
theorem flat_RV {K : PySem.W.Frag} {CA : Nat → Option Addr} {H : Hp} {P : Addr → Prop} {v : Val} (h : flat v = true) : RV K CA H P v (toV v) := by
  cases v <;> first | (cases h; done) | skip
  · exact .non
  · exact .bl _
  · exact .int _
  · exact .str _
theorem flats_RV {K : PySem.W.Frag} {CA : Nat → Option Addr} {H : Hp} {P : Addr → Prop} : ∀ {vs : List Val}, vs.all flat = true → RVs K CA H P vs (vs.map toV)
  | [], _ => .nil
  | v :: vs, h => by
    rw [List.all_cons, Bool.and_eq_true] at h
    exact .cons (flat_RV h.1) (flats_RV h.2)
theorem flats_noL : ∀ {vs : List Val}, vs.all flat = true → noLs vs = true
  | [], _ => rfl
  | v :: vs, h => by
    rw [List.all_cons, Bool.and_eq_true] at h
    show (noL v && noLs vs) = true
    rw [flats_noL h.2, Bool.and_true]
    cases v <;> first | rfl | (cases h.1; done)
theorem keys_of {ks : List Val} (h : ks.all isK = true) : ∃ js : List Key, ks = js.map kG := by
  induction ks with
  | nil => exact ⟨[], rfl⟩
  | cons k ks ih =>
    rw [List.all_cons, Bool.and_eq_true] at h
    obtain ⟨js, rfl⟩ := ih h.2
    cases k <;> first | (cases h.1; done) | skip
    · exact ⟨.inl _ :: js, rfl⟩
    · exact ⟨.inr _ :: js, rfl⟩
theorem pps_cst : ∀ {keys : List (Option Expr)} {values : List Expr} {ks vs : List Val} {pos : Pos}, cstsO keys = some ks → cstsE values = some vs → keys.length = values.length →
    ∃ trs, PPs X pos keys values trs ∧ ks.length = vs.length ∧ ∀ (σ : L2.St) (H : Hp) (Q : List (V × V) → Hp → Prop), Q ((ks.zip vs).map fun p => (toV p.1, toV p.2)) H → tPairs trs σ H Q
  | [], [], ks, vs, pos, h1, h2, _ => by
    cases h1; cases h2
    exact ⟨[], pps_nil, rfl, fun σ H Q q => q⟩
  | some k :: keys, v :: values, ks, vs, pos, h1, h2, hl => by
    cases e1 : cstE k with
    | none => simp only [cstsO, e1, Option.bind_none] at h1; cases h1
    | some a =>
      cases e2 : cstE v with
      | none => simp only [cstsE, e2, Option.bind_none] at h2; cases h2
      | some b =>
        simp only [cstsO, e1, Option.bind_some] at h1
        simp only [cstsE, e2, Option.bind_some] at h2
        cases e3 : cstsO keys with
        | none => rw [e3] at h1; cases h1
        | some ks' =>
          cases e4 : cstsE values with
          | none => rw [e4] at h2; cases h2
          | some vs' =>
            rw [e3] at h1; rw [e4] at h2
            cases h1; cases h2
            obtain ⟨trs, p, l, q⟩ := pps_cst (pos := pos) e3 e4 (by simpa using hl)
            exact ⟨_, pps_cons (cstE_ok e1).1 (cstE_ok e2).1 p, by simp [l], fun σ H Q h => q σ H (fun ps H3 => Q ((toV a, toV b) :: ps) H3) h⟩
  | [], _ :: _, _, _, _, _, _, hl => by simp at hl
  | _ :: _, [], _, _, _, _, _, hl => by simp at hl
  | none :: _, _ :: _, _, _, _, h1, _, _ => by cases h1
theorem merge_nd : ∀ (more kvs : List (Key × V)), (more.map (·.1)).Pairwise (· ≠ ·) → (∀ kv ∈ more, valV kvs kv.1 = none) → mergeK kvs more = kvs ++ more
  | [], kvs, _, _ => (List.append_nil _).symm
  | kv :: more, kvs, nd, h => by
    rw [List.map_cons, List.pairwise_cons] at nd
    show mergeK (putK kvs kv.1 kv.2) more = _
    rw [putK_new kv.2 (h kv List.mem_cons_self), merge_nd more _ nd.2 fun q hq => ?_, List.append_assoc]
    · rfl
    · rw [valV_snoc _ _ _ _ (h kv List.mem_cons_self), if_neg (nd.1 q.1 (List.mem_map.mpr ⟨q, hq, rfl⟩)).symm]
      exact h q (List.mem_cons_of_mem _ hq)
theorem kND_pw : ∀ {js : List Key}, kND (js.map kG) = true → js.Pairwise (· ≠ ·)
  | [], _ => .nil
  | j :: js, h => by
    have h : ((js.map kG).all (fun k => !keqV (kG j) k) && kND (js.map kG)) = true := h
    rw [Bool.and_eq_true, List.all_eq_true] at h
    refine .cons (fun k hk => ?_) (kND_pw h.2)
    have := h.1 (kG k) (List.mem_map.mpr ⟨k, hk, rfl⟩)
    rw [keqV_kG] at this
    simpa using this
variable {CA : Nat → Option Addr} {cl : Nat → List Val → G.R (Val × Bool)} {H0 : Bs} {a b : Expr} {ea eb : E} {pos : Pos}
theorem toV_kG (k : Key) : toV (kG k) = kV k := by cases k <;> rfl
theorem zip_kvs : ∀ (js : List Key) (vs : List Val), js.length = vs.length → ((js.map kG).zip vs).map (fun p => (toV p.1, toV p.2)) = ((js.zip (vs.map toV)).map fun kv => (kV kv.1, kv.2))
  | [], [], _ => rfl
  | j :: js, v :: vs, h => by
    simp only [List.map_cons, List.zip_cons_cons, toV_kG]
    rw [zip_kvs js vs (by simpa using h)]
  | [], _ :: _, h => by simp at h
  | _ :: _, [], h => by simp at h
theorem zip_k : ∀ (js : List Key) (vs : List V), js.length = vs.length → (js.zip vs).map (·.1) = js ∧ (js.zip vs).map (·.2) = vs
  | [], [], _ => ⟨rfl, rfl⟩
  | j :: js, v :: vs, h => by
    obtain ⟨h1, h2⟩ := zip_k js vs (by simpa using h)
    exact ⟨by rw [List.zip_cons_cons, List.map_cons, h1], by rw [List.zip_cons_cons, List.map_cons, h2]⟩
  | [], _ :: _, h => by simp at h
  | _ :: _, [], h => by simp at h
theorem Out.newK {K : PySem.W.Frag} {H : Hp} {P : Addr → Prop} {Q : VK} {kvs : List (Key × V)} {vs : List Val} (o : Out K CA H P (.dk (kvs.map fun kv => kG kv.1) vs, true) Q) (t : Trk P H) (nl : noLs vs = true) (r : RVs K CA H P vs (kvs.map (·.2))) {p : Addr} {H' : Hp} (hp : H p = none) (hs : Same H H') (e : H' p = some (.dK kvs)) : Q (.ref p) H' :=
  o _ P _ ⟨hs, .refl, fun a q => by
    obtain ⟨o, e, m⟩ := t a q
    exact ⟨o, hs _ _ e, m⟩⟩ (.inr ⟨rfl, p, _, rfl, hp, e, t.no hp, .dk nl (r.mono hs fun _ q => q)⟩)
theorem v3_dl {keys : List (Option Expr)} {values : List Expr} {ks vs : List Val} (h1 : cstsO keys = some ks) (h2 : cstsE values = some vs) (hl : keys.length = values.length) (h15 : keys.length ≤ 15) (hall : keys.all (·.isSome) = true) : V3 CA cl H0 X (.Dict keys values pos) (.dl ks vs) := by
  refine .of (by intro i z; cases z) rfl fun W tk => ?_
  cases keys with
  | nil =>
    cases values with
    | cons v vs => simp at hl
    | nil =>
      cases h1; cases h2
      refine pe_dnewK.imp fun σ H Q q => ?_
      obtain ⟨env, P, er, q⟩ := q
      intro p hp
      have q : Out X.K CA H P (.dk [] [], true) Q := q
      exact Out.newK (kvs := []) q er.trk rfl .nil hp (same_new hp) upd_same
  | cons k keys =>
    obtain ⟨trs, pp, ll, ht⟩ := pps_cst (X := X) (pos := pos) h1 h2 hl
    refine (pe_disp pp hall hl (by simp) h15).imp fun σ H Q q => ?_
    obtain ⟨env, P, er, q⟩ := q
    intro p hp
    have q : ResG CA H σ W (fun p => Out X.K CA H P p Q) (if okDl ks vs = true then .ok (.dk ks vs, true) else .bad) := q
    split at q
    · rename_i ok
      unfold okDl at ok
      rw [Bool.and_eq_true, Bool.and_eq_true, Bool.and_eq_true, Bool.and_eq_true, decide_eq_true_iff, decide_eq_true_iff] at ok
      obtain ⟨⟨⟨⟨_, k15⟩, kk⟩, vf⟩, nd⟩ := ok
      obtain ⟨js, rfl⟩ := keys_of kk
      have lj : js.length = vs.length := by rw [← ll, List.length_map]
      have lv : js.length = (vs.map toV).length := by rw [List.length_map]; exact lj
      refine ht σ _ _ ⟨upd_same, js.zip (vs.map toV), zip_kvs js vs lj, by rw [List.length_zip]; rw [List.length_map] at k15; omega, ?_⟩
      have z := zip_k js (vs.map toV) lv
      have em : mergeK [] (js.zip (vs.map toV)) = js.zip (vs.map toV) := by
        rw [merge_nd _ [] (by rw [z.1]; exact kND_pw nd) fun _ _ => rfl, List.nil_append]
      rw [em]
      have q : Out X.K CA H P (.dk (js.map kG) vs, true) Q := q
      have ek : js.map kG = (js.zip (vs.map toV)).map fun kv => kG kv.1 := by
        have := congrArg (List.map kG) z.1
        rw [List.map_map] at this
        exact this.symm
      rw [ek] at q
      refine Out.newK q er.trk (flats_noL vf) (by rw [z.2]; exact flats_RV vf) hp (fun c u e => ?_) upd_same
      rw [upd_ne (ne_of_none e hp), upd_ne (ne_of_none e hp)]; exact e
    · exact q.elim
def tGetD (K : PySem.W.Frag) (td ty : TE) : TE := fun σ H Q => td σ H fun x H1 => ∃ a ds, x = .ref a ∧ H1 a = some (DctO ds a) ∧ DK K H1 ds ∧ ty σ H1 fun y H2 => ∃ b k, y = .ref b ∧ H2 a = some (DctO ds a) ∧ DK K H2 ds ∧ SqT K H2 b (k.map V.int) ∧ Q (((dfnd ds k).map FV.v).getD .non) H2
theorem pe_getD (hu : X.A.units + 1 < cLine) {o e : Expr} {apos cpos : Pos} {td ty : TE} (ho : PE X o td) (he : PE X e ty) (m : M1 X o "get" apos e cpos) : PE X (.Call (.Attribute o "get" apos) [e] [] cpos) (tGetD X.K td ty) := by
  refine ⟨fun pins s σ H Q I h => ?_⟩
  refine wpAny_Call_method m.base m.few m.line PySem.F.plainAttrs_dict PySem.F.slot_dict_get PySem.F.type_dict_get (thn (ho.run pins s σ H _ I h) fun u s1 ⟨x, H1, I1, rx, a, ds, ex, d, hk, q1⟩ => ?_)
  subst ex
  obtain rfl : u = Value.ref a := rx
  obtain ⟨_, _, _, _, dd⟩ := dict_of I1 d hk
  refine ⟨dd.typeIs, fun b q => ?_, ?_⟩
  · cases q
    obtain ⟨ob, _, _, h1, h2, _⟩ := dd
    exact ⟨ob, h1, h2.2.1⟩
  rw [m.trees]
  refine Calls.callWith_builtin rfl (Calls.evalArgs_plain (Calls.spliced_cons (thn (he.run pins s1 σ H1 _ I1 q1) fun iv s2 ⟨y, H2, I2, ry, b, k, ey, e2, hk2, sk, q2⟩ => Calls.spliced_nil ?_)))
  subst ey
  cases (show iv = Value.ref b from ry)
  obtain ⟨hd, _, xs, rel, dd2⟩ := dict_of I2 e2 hk2
  refine call_meetsIn PySem.F.slot_dict_get dd2.typeIs PySem.F.entry_dict_get (PySem.F.args_dict_get_2 _ _) (meetsH_dict_get (tupleKind (intKind X.prog X.w)) a b hd) ⟨tupleKind_room_in1 hu, k, xs, key_sq I2 sk, dd2, ⟨_, H2, I2.tok _, ?_, q2⟩⟩
  exact (rel.val k).getD rfl
theorem v3_get (hu : X.A.units + 64 < cLine) {pa pc : Pos} (hline : (pa.endLine == pc.line) = true) (hbase : attributeBase a "get" X.env (eval a X.env) = eval a X.env) (hs : okSrc b = true) (ha : V3 CA cl H0 X a ea) (hb : V3 CA cl H0 X b eb) : V3 CA cl H0 X (.Call (.Attribute a "get" pa) [b] [] pc) (.get ea eb) := by
  have st := okSrc.st hs
  refine .of (by intro i z; cases z) rfl fun W tk => ?_
  have m : M1 X a "get" pa b pc := by
    refine ⟨hbase, ?_, hline, ?_⟩
    · have e1 : starEach [b] X.env = (false, eval b X.env) :: starEach [] X.env := st _ _
      rw [e1]; rfl
    · have e1 : starEach [b] X.env = (false, eval b X.env) :: starEach [] X.env := st _ _
      rw [e1]; rfl
  refine (pe_getD (by omega) (ha.opd W tk) (hb.opd W tk) m).imp fun σ H Q q => ?_
  obtain ⟨env, P, er, q⟩ := q
  have q : ResG CA H σ W (fun p => Out X.K CA H P p Q) ((opd env ea (evE cl ea env)).bind fun x => (R.guard (isDct x)).bind fun _ => (opd env eb (evE cl eb env)).bind fun y => (evGet x y).map (·, false)) := q
  refine ⟨env, P, er, q.bind.imp fun va q H1 P1 x st1 r1 => ?_⟩
  cases va <;> first | exact q.elim | skip
  rename_i kvs
  obtain ⟨a', ds, rfl, sa, rfl, dk⟩ := r1.dct
  have q : ResG CA H σ W (fun p => Out X.K CA H P p Q) ((opd env eb (evE cl eb env)).bind fun y => (evGet (.dct (dvl ds)) y).map (·, false)) := q
  refine ⟨a', ds, rfl, sa, dk, env, P1, er.grow st1, (q.bind.at st1.s).imp fun vb q H2 P2 y st2 r2 => ?_⟩
  have q4 := (q.at st1.s).map
  have q5 := q4.at st2.s
  clear q q4
  revert q5
  cases vb <;> first | exact fun q => q.elim | intro q
  case tup vs =>
    obtain ⟨b', xs, rfl, sb, qb⟩ := r2.tup
    unfold evGet at q
    dsimp only at q
    cases e : intsL vs with
    | none => rw [e] at q; exact q.elim
    | some k =>
      rw [e] at q
      have ex := intsL_rv e qb
      subst ex
      have q : Out X.K CA H P (((dfind (dvl ds) k).map FV.val).getD .non, false) Q := q
      refine ⟨b', k, rfl, st2.s _ _ sa, dk.same st2.s, sb, ?_⟩
      have q := Out.at q (st1.trans st2)
      rw [dfind_dvl] at q
      refine Out.here q st2.t ?_
      cases dfnd ds k with
      | none => exact .non
      | some fv => cases fv <;> constructor
end
end G

set_option linter.all false
set_option maxHeartbeats 2000000
set_option maxRecDepth 100000
namespace G
open PySem PySem.Spec PyProof.Rows HT
open L2 hiding Takes XE CX takes_of passes_call ps_raise PMk MkP mk_of pmk_own passAt ps_try_as ps_try_many HdsOk
open L2N (Takes XE CX takes_of passes_call ps_raise PMk MkP mk_of pmk_own passAt)
section
variable {K : PySem.W.Frag} {CA : Nat → Option Addr} {H H1 H' H2 : Hp} {H0 : Bs} {P P1 P' P2 : Addr → Prop} {σ : L2.St} {W : WX} {env : Env} {D : Ends}
def ResS (K : PySem.W.Frag) (CA : Nat → Option Addr) (H0 : Bs) (H : Hp) (P : Addr → Prop) (W : WX) (D : Ends) (o : O) : Prop := match o with
  | .nx env' => ∀ σ' H' P', PersR H P H' P' → ER K CA H0 H' P' env' σ' → D.nx σ' H'
  | .brk env' => ∀ σ' H' P', PersR H P H' P' → ER K CA H0 H' P' env' σ' → D.bk σ' H'
  | .cnt env' => ∀ σ' H' P', PersR H P H' P' → ER K CA H0 H' P' env' σ' → D.ct σ' H'
  | .ret v fr => Out K CA H0.h H0.p (v, fr) D.rt
  | .rtn vs => OutN K CA H0.h (.tup vs, false) D.rt
  | .exc c env' => ∀ σ' H' P' C, PersR H P H' P' → ER K CA H0 H' P' env' σ' → CA c = some C → W (.ref C) none σ' H'
  | .bad => False
theorem PersR.refl : PersR H P H P := ⟨.refl, fun _ z => z⟩
theorem PersR.trans (a : PersR H P H1 P1) (b : PersR H1 P1 H2 P2) : PersR H P H2 P2 := ⟨a.1.trans b.1 a.2, fun z q => b.2 z (a.2 z q)⟩
theorem Step.persR (st : Step P H P' H') : PersR H P H' P' := ⟨.of_same st.s, st.g.1⟩
theorem ResS.at {o : O} (h : ResS K CA H0 H P W D o) (r : PersR H P H1 P1) : ResS K CA H0 H1 P1 W D o := by
  cases o with
  | nx env' => exact fun σ' H' P' q er => h σ' H' P' (r.trans q) er
  | brk env' => exact fun σ' H' P' q er => h σ' H' P' (r.trans q) er
  | cnt env' => exact fun σ' H' P' q er => h σ' H' P' (r.trans q) er
  | ret v fr => exact h
  | rtn vs => exact h
  | exc c env' => exact fun σ' H' P' C q er => h σ' H' P' C (r.trans q) er
  | bad => exact h
theorem ER.stay (er : ER K CA H0 H P env σ) (s : Same H H') : ER K CA H0 H' P env σ := er.grow ⟨s, .refl, fun a z => by
  obtain ⟨xs, e, m⟩ := er.trk a z
  exact ⟨xs, s _ _ e, m⟩⟩
theorem keepE_get {i : Nat} {p : Val × Bool} (h : (keepE env)[i]? = some (some p)) : env[i]? = some (some p) ∧ (p.2 = false → noL p.1 = true) ∧ (p.2 = true → ∃ vs, p.1 = .lst vs ∧ noLs vs = true) := by
  unfold keepE at h
  rw [List.getElem?_map] at h
  cases e : env[i]? with
  | none => rw [e] at h; cases h
  | some q =>
    rw [e] at h
    have h : some (keepS q) = some (some p) := h
    injection h with h
    cases q with
    | none => cases h
    | some q =>
      obtain ⟨v, o⟩ := q
      cases o with
      | true =>
        cases v with
        | lst vs =>
          have h : (if noLs vs = true then some (Val.lst vs, true) else none) = some p := h
          by_cases n : noLs vs = true
          · rw [if_pos n] at h; cases h; exact ⟨rfl, (fun z => by cases z), fun _ => ⟨vs, rfl, n⟩⟩
          · rw [if_neg n] at h; cases h
        | _ => cases h
      | false =>
        have h : (if noL v = true then some (v, false) else none) = some p := by
          cases v <;> exact h
        by_cases n : noL v = true
        · rw [if_pos n] at h; cases h; exact ⟨rfl, (fun _ => n), fun z => by cases z⟩
        · rw [if_neg n] at h; cases h
theorem ER.keepE (er : ER K CA H0 H P env σ) : ER K CA ⟨H0.h, fun _ => False⟩ H (fun _ => False) (G.keepE env) σ where
  ext := er.ext
  gr := ⟨fun _ z => z, fun _ z => z.elim⟩
  trk := fun _ z => z.elim
  len := by unfold G.keepE; rw [List.length_map, er.len]
  shr := fun i v h => by
    obtain ⟨h1, h2, _⟩ := keepE_get h
    obtain ⟨x, e, r⟩ := er.shr i v h1
    exact ⟨x, e, RV.noL v (h2 rfl) r⟩
  own := fun i v h => by
    obtain ⟨h1, _, h2⟩ := keepE_get h
    obtain ⟨a, o, e1, e2, e3, e4, e5⟩ := er.own i v h1
    obtain ⟨vs, e6, n⟩ := h2 rfl
    dsimp only at e6
    subst e6
    refine ⟨a, o, e1, e2, fun z => z, e4, ?_⟩
    cases e5 with
    | lst r => exact .lst (RVs.noL vs n r)
  dis := fun i j v w a h1 h2 => er.dis i j v w a (keepE_get h1).1 (keepE_get h2).1
theorem rO_res {α : Type} {r : G.R α} {f : α → O} {env' : Env} (er : ER K CA H0 H P' env' σ) (g : ∀ a, P a → P' a) (h : ResS K CA H0 H P W D (rO env' r f)) : ResG CA H σ W (fun a => ResS K CA H0 H P' W D (f a)) r := by
  cases r with
  | ok a => exact h.at ⟨.refl, g⟩
  | exc c => exact fun H' C s e => h σ H' P' C ⟨.of_same s, g⟩ (er.stay s) e
  | bad => exact h
theorem ER.frz1 (er : ER K CA H0 H P env σ) (i : Nat) : ∃ P', (∀ a, P a → P' a) ∧ ER K CA H0 H P' (frz env i) σ := by
  unfold frz
  split
  · rename_i v o he
    cases o with
    | false =>
      refine ⟨P, fun _ z => z, er.less (by rw [List.length_set]) rfl fun j p h => ⟨?_, rfl⟩⟩
      rcases set_get h with ⟨rfl, e⟩ | ⟨_, h⟩
      · cases e; exact he
      · exact h
    | true =>
      obtain ⟨a, o, e2, e3, e4, e5, e6⟩ := er.own i v he
      refine ⟨fun b => P b ∨ b = a, fun _ z => .inl z, ?_⟩
      exact {
        ext := er.ext
        gr := ⟨fun b z => .inl (er.gr.1 b z), fun b z => z.elim (er.gr.2 b) fun e => .inr (by rw [e]; exact e5)⟩
        trk := fun b z => z.elim (er.trk b) fun e => by rw [e]; exact ⟨o, e3, e6.mt⟩
        len := by rw [List.length_set, er.len]
        shr := fun j w h => by
          rcases set_get h with ⟨rfl, e⟩ | ⟨_, h⟩
          · cases e
            exact ⟨_, e2, (e6.mono (Same.refl _) fun _ z => .inl z).rv e3 (.inr rfl)⟩
          · obtain ⟨x, h1, h2⟩ := er.shr j w h
            exact ⟨x, h1, h2.mono (Same.refl _) fun _ z => .inl z⟩
        own := fun j w h => by
          rcases set_get h with ⟨rfl, e⟩ | ⟨ne, h⟩
          · cases e
          · obtain ⟨b, o2, g2, g3, g4, g5, g6⟩ := er.own j w h
            refine ⟨b, o2, g2, g3, fun z => z.elim g4 fun e => ?_, g5, g6.mono (Same.refl _) fun _ z => .inl z⟩
            subst e
            exact ne (er.dis i j _ _ _ he h e2 g2)
        dis := fun j k w z b h1 h2 => by
          rcases set_get h1 with ⟨rfl, e⟩ | ⟨_, h1⟩
          · cases e
          · rcases set_get h2 with ⟨rfl, e⟩ | ⟨_, h2⟩
            · cases e
            · exact er.dis j k w z b h1 h2 }
  · exact ⟨P, fun _ z => z, er⟩
theorem ER.frz {env : Env} {P : Addr → Prop} (er : ER K CA H0 H P env σ) (is : List Nat) : ∃ P', (∀ a, P a → P' a) ∧ ER K CA H0 H P' (frzAll env is) σ := by
  induction is generalizing env P with
  | nil => exact ⟨P, fun _ z => z, er⟩
  | cons i is ih =>
    obtain ⟨P1, g1, er1⟩ := er.frz1 i
    obtain ⟨P2, g2, er2⟩ := ih er1
    exact ⟨P2, fun a z => g2 a (g1 a z), er2⟩
theorem ER.putR (er : ER K CA H0 H P env σ) (st : Step P H P' H') {i : Nat} {p : Val × Bool} {x : V} (r : RF K CA H H' P' p x) : ER K CA H0 H' P' (G.put env i p.1 p.2) (σ.set i (some x)) := by
  obtain ⟨v, fr⟩ := p
  rcases r with ⟨e, r⟩ | ⟨e, a, ob, e2, h1, h2, h3, h4⟩
  · dsimp only at e r ⊢
    subst e
    exact (er.grow st).put r
  · dsimp only at e h4 ⊢
    subst e e2
    refine (er.grow st).putOwnO h2 h3 (er.ext.free h1) h4 fun j b _ o => ?_
    obtain ⟨_, _, _, _, g, _⟩ := o.at er
    exact ne_of_none g h1
end
def tS (K : PySem.W.Frag) (CA : Nat → Option Addr) (cl : Nat → List Val → G.R (Val × Bool)) (H0 : Bs) (W : WX) (s : S) : TS := fun D σ H => ∃ env P, ER K CA H0 H P env σ ∧ ResS K CA H0 H P W D (evS cl s env)
def tSs (K : PySem.W.Frag) (CA : Nat → Option Addr) (cl : Nat → List Val → G.R (Val × Bool)) (H0 : Bs) (W : WX) (ss : List S) : TS := fun D σ H => ∃ env P, ER K CA H0 H P env σ ∧ ResS K CA H0 H P W D (evSs cl ss env)
def S3 (CA : Nat → Option Addr) (cl : Nat → List Val → G.R (Val × Bool)) (H0 : Bs) (X : Cx) (src : Stmt) (s : S) : Prop := ∀ W, Takes X W → PS X src (tS X.K CA cl H0 W s)
def Ss3 (CA : Nat → Option Addr) (cl : Nat → List Val → G.R (Val × Bool)) (H0 : Bs) (X : Cx) (srcs : List Stmt) (ss : List S) : Prop := ∀ W, Takes X W → PSs X srcs (tSs X.K CA cl H0 W ss)
theorem noComp.sw {e : Expr} (h : noComp e = true) (t : Option Expr) (l : Nat) (env : PySem.Env) : swapsWith e t l env = pure false := by
  cases e <;> first | rfl | cases h
section
variable {X : Cx} {CA : Nat → Option Addr} {cl : Nat → List Val → G.R (Val × Bool)} {H0 : Bs} {src a b c : Expr} {e ea eb ec : E} {pos : Pos}
theorem ss_nil : Ss3 CA cl H0 X [] [] := fun W tk => pss_nil.imp fun D σ H q => by
  obtain ⟨env, P, er, q⟩ := q
  exact q σ H P .refl er
theorem ss_cons {s1 : Stmt} {ss : List Stmt} {t : S} {ts : List S} (h1 : S3 CA cl H0 X s1 t) (h2 : Ss3 CA cl H0 X ss ts) : Ss3 CA cl H0 X (s1 :: ss) (t :: ts) := fun W tk => (pss_cons (h1 W tk) (h2 W tk)).imp fun D σ H q => by
  obtain ⟨env, P, er, q⟩ := q
  refine ⟨env, P, er, ?_⟩
  have q : ResS X.K CA H0 H P W D (match evS cl t env with | .nx env' => evSs cl ts env' | o => o) := q
  cases e1 : evS cl t env with
  | nx env' =>
    rw [e1] at q
    exact fun σ' H' P' r er' => ⟨env', P', er', q.at r⟩
  | brk env' => rw [e1] at q; exact q
  | cnt env' => rw [e1] at q; exact q
  | ret v fr => rw [e1] at q; exact q
  | rtn vs => rw [e1] at q; exact q
  | exc c env' => rw [e1] at q; exact q
  | bad => rw [e1] at q; exact q
theorem s_pass : S3 CA cl H0 X (.Pass pos) .pass := fun W tk => ps_pass.imp fun D σ H q => by
  obtain ⟨env, P, er, q⟩ := q
  exact q σ H P .refl er
theorem set_imp {W : WX} {i : Nat} {D : Ends} {σ : L2.St} {H : Hp} (q : tS X.K CA cl H0 W (.set i e) D σ H) : tAsg (tE X.K CA cl H0 W e) (gName i) D σ H := by
  obtain ⟨env, P, er, q⟩ := q
  obtain ⟨P1, g1, er1⟩ := er.frz (kept e)
  refine ⟨_, P1, er1, (rO_res er1 g1 q).imp fun p q H' P' x st r => ?_⟩
  exact q _ H' P' st.persR (er1.putR st r)
theorem s_set {i : Nat} {x : Str} {p : Pos} (hN : X.N.Nodup) (hi : X.N[i]? = some x) (hl : Loc X.env.scope x) (hf : X.fn x = true ∨ X.env.scope.names.lookup x = some .local) (hs : noComp a = true) (ha : V3 CA cl H0 X a ea) : S3 CA cl H0 X (.Assign [.Name x p] a pos) (.set i ea) :=
  fun W tk => (ps_set hN hi hl (ha.val W tk) (noComp.sw hs _ _ _) hf).imp fun D σ H q => set_imp q
theorem s_setN {i : Nat} {x : Str} {p : Pos} (hN : X.N.Nodup) (hi : X.N[i]? = some x) (hl : Loc X.env.scope x) (hf : X.fn x = true ∨ X.env.scope.names.lookup x = some .local) (hs : swapsWith a (some (.Name x p)) pos.line X.env = pure false) (ha : V3 CA cl H0 X a ea) : S3 CA cl H0 X (.Assign [.Name x p] a pos) (.set i ea) :=
  fun W tk => (ps_set hN hi hl (ha.val W tk) hs hf).imp fun D σ H q => set_imp q
theorem s_unp {is : List Nat} {es : List Expr} {k : Nat} {p : Pos} (hN : X.N.Nodup) (hc : X.calm = true) (ht : TgP X (.Tuple es k p) (.tup is)) (hsw : swappedStores [.Tuple es k p] a X.env = pure none) (hs : noComp a = true) (ha : V3 CA cl H0 X a ea) :
    S3 CA cl H0 X (.Assign [.Tuple es k p] a pos) (.unp is ea) := fun W tk => (ps_asg (ha.val W tk) (pg_tg hN hc ht) (show swapsWithSole [.Tuple es k p] a pos.line X.env = pure false from noComp.sw hs (some (.Tuple es k p)) pos.line X.env) hsw rfl).imp fun D σ H q => by
  obtain ⟨env, P, er, q⟩ := q
  obtain ⟨P1, g1, er1⟩ := er.frz (kept ea)
  refine ⟨_, P1, er1, (rO_res er1 g1 q).imp fun p q H' P' x st r => ?_⟩
  obtain ⟨P3, st3, g3, r3⟩ := r.rv st
  cases e1 : bindT (.tup is) (frzE env ea) p.1 with
  | ok env' =>
    rw [e1] at q
    exact bindT_ok (er1.grow st3) r3 e1 fun σ' er' _ => q σ' H' P3 st3.persR er'
  | exc c => rw [e1] at q; exact q.elim
  | bad => rw [e1] at q; exact q.elim
theorem rvs2 {K : PySem.W.Frag} {H : Hp} {P : Addr → Prop} {v w : Val} {xs : List V} (r : RVs K CA H P [v, w] xs) : ∃ x y, xs = [x, y] ∧ RV K CA H P v x ∧ RV K CA H P w y := by
  cases r with
  | cons r t => cases t with
    | cons r2 t => cases t; exact ⟨_, _, rfl, r, r2⟩
theorem rvs3 {K : PySem.W.Frag} {H : Hp} {P : Addr → Prop} {v w u : Val} {xs : List V} (r : RVs K CA H P [v, w, u] xs) : ∃ x y z, xs = [x, y, z] ∧ RV K CA H P v x ∧ RV K CA H P w y ∧ RV K CA H P u z := by
  cases r with
  | cons r t =>
    obtain ⟨y, z, rfl, r2, r3⟩ := rvs2 t
    exact ⟨_, y, z, rfl, r, r2, r3⟩
theorem s_par {i j : Nat} {x y : Str} {px py pt pt2 : Pos} {kt k2 : Nat} (hN : X.N.Nodup) (hc : X.calm = true) (hi : X.N[i]? = some x) (hj : X.N[j]? = some y) (hij : i ≠ j) (hx : X.env.scope.names.lookup x = some .local) (hy : X.env.scope.names.lookup y = some .local)
    (hw : swappedStores [.Tuple [.Name x px, .Name y py] kt pt] (.Tuple [a, b] k2 pt2) X.env = pure (some [x, y])) (h : Vs3 CA cl H0 X [a, b] [ea, eb]) :
    S3 CA cl H0 X (.Assign [.Tuple [.Name x px, .Name y py] kt pt] (.Tuple [a, b] k2 pt2) pos) (.par i j ea eb) := fun W tk => (ps_par hc hN hi hj hij hx hy (pa_es tk h) hw).imp fun D σ H q => by
  obtain ⟨env, P, er, q⟩ := q
  obtain ⟨P1, g1, er1⟩ := er.frz (kept ea ++ kept eb)
  have q := rO_res er1 g1 q
  refine ⟨_, P1, er1, q.imp fun vs q H' P' xs st r => ?_⟩
  match vs, q with
  | [v, w], q =>
    have q : ResS X.K CA H0 H P1 W D (if i = j then .bad else .nx (put (put (frzAll env (kept ea ++ kept eb)) i v false) j w false)) := q
    rw [if_neg hij] at q
    obtain ⟨x, y, rfl, r1, r2⟩ := rvs2 r
    exact ⟨x, y, rfl, q _ H' P' st.persR (((er1.grow st).put r1).put r2)⟩
theorem s_par3 {i j l : Nat} {x y z : Str} {px py pz pt pt2 : Pos} {kt k2 : Nat} (hN : X.N.Nodup) (hc : X.calm = true) (hi : X.N[i]? = some x) (hj : X.N[j]? = some y) (hl : X.N[l]? = some z) (hij : i ≠ j) (hil : i ≠ l) (hjl : j ≠ l)
    (hx : X.env.scope.names.lookup x = some .local) (hy : X.env.scope.names.lookup y = some .local) (hz : X.env.scope.names.lookup z = some .local)
    (hw : swappedStores [.Tuple [.Name x px, .Name y py, .Name z pz] kt pt] (.Tuple [a, b, c] k2 pt2) X.env = pure (some [x, y, z])) (h : Vs3 CA cl H0 X [a, b, c] [ea, eb, ec]) :
    S3 CA cl H0 X (.Assign [.Tuple [.Name x px, .Name y py, .Name z pz] kt pt] (.Tuple [a, b, c] k2 pt2) pos) (.par3 i j l ea eb ec) := fun W tk => (ps_par3 hc hN hi hj hl hij hil hjl hx hy hz (pa_es tk h) hw).imp fun D σ H q => by
  obtain ⟨env, P, er, q⟩ := q
  obtain ⟨P1, g1, er1⟩ := er.frz (kept ea ++ kept eb ++ kept ec)
  have q := rO_res er1 g1 q
  refine ⟨_, P1, er1, q.imp fun vs q H' P' xs st r => ?_⟩
  match vs, q with
  | [v, w, u], q =>
    have q : ResS X.K CA H0 H P1 W D (if i = j ∨ i = l ∨ j = l then .bad else .nx (put (put (put (frzAll env (kept ea ++ kept eb ++ kept ec)) i v false) j w false) l u false)) := q
    rw [if_neg (fun z => z.elim hij fun z => z.elim hil hjl)] at q
    obtain ⟨x, y, z, rfl, r1, r2, r3⟩ := rvs3 r
    exact ⟨x, y, z, rfl, q _ H' P' st.persR ((((er1.grow st).put r1).put r2).put r3)⟩
theorem s_exp (hs : noComp a = true) (ha : V3 CA cl H0 X a ea) : S3 CA cl H0 X (.Expr a pos) (.exp ea) := fun W tk => (ps_expr (ha.val W tk) (noComp.sw hs _ _ _)).imp fun D σ H q => by
  obtain ⟨env, P, er, q⟩ := q
  obtain ⟨P1, g1, er1⟩ := er.frz (kept ea)
  exact ⟨_, P1, er1, (rO_res er1 g1 q).imp fun p q H' P' x st r => q σ H' P' st.persR (er1.grow st)⟩
theorem s_retn : S3 CA cl H0 X (.Return none pos) .retn := fun W tk => ps_retN.imp fun D σ H q => by
  obtain ⟨env, P, er, q⟩ := q
  have q : Out X.K CA H0.h H0.p (.non, false) D.rt := q
  exact q H P .non ⟨er.ext, er.gr, er.trk⟩ (.inl ⟨rfl, .non⟩)
theorem s_ret (hn : ∀ i, ea ≠ .nm i) (ha : V3 CA cl H0 X a ea) : S3 CA cl H0 X (.Return (some a) pos) (.ret ea) := fun W tk => (ps_ret (ha.val W tk)).imp fun D σ H q => by
  obtain ⟨env, P, er, q⟩ := q
  obtain ⟨P1, g1, er1⟩ := er.frz (kept ea)
  have e1 : evRet cl ea env = evE cl ea (frzE env ea) := by
    cases ea <;> first | rfl | exact absurd rfl (hn _)
  have q : ResS X.K CA H0 H P W D (rO env (evRet cl ea env) fun p => .ret p.1 p.2) := q
  rw [e1] at q
  refine ⟨_, P1, er1, ?_⟩
  show ResG CA H σ W _ (evE cl ea (frzE env ea))
  cases e2 : evE cl ea (frzE env ea) with
  | ok p =>
    rw [e2] at q
    intro H' P' x st r
    exact q H' P' x ⟨er1.ext.trans st.s, er1.gr.trans er1.ext st.g, st.t⟩ (r.back er1.ext)
  | exc c =>
    rw [e2] at q
    intro H' C s hc
    exact q σ H' P C ⟨.of_same s, fun _ z => z⟩ (er.stay s) hc
  | bad => rw [e2] at q; exact q.elim
theorem s_rett (ha : V3 CA cl ⟨H0.h, fun _ => False⟩ X a ea) : S3 CA cl H0 X (.Return (some a) pos) (.rett ea) := fun W tk => (ps_ret (ha.val W tk)).imp fun D σ H q => by
  obtain ⟨env, P, er, q⟩ := q
  obtain ⟨P1, g1, er1⟩ := er.keepE.frz (kept ea)
  have q : ResS X.K CA H0 H P W D (rO env (evE cl ea (frzE (G.keepE env) ea)) rtO) := q
  refine ⟨_, P1, er1, ?_⟩
  show ResG CA H σ W _ (evE cl ea (frzE (G.keepE env) ea))
  cases e2 : evE cl ea (frzE (G.keepE env) ea) with
  | ok p =>
    rw [e2] at q
    have q : ResS X.K CA H0 H P W D (rtO p) := q
    obtain ⟨v, fr⟩ := p
    cases v <;> first | exact q.elim | skip
    cases fr <;> first | exact q.elim | skip
    have q : OutN X.K CA H0.h (.tup _, false) D.rt := q
    intro H' P' x st r
    rcases r with ⟨_, r⟩ | ⟨z, _⟩
    · refine q H' P' x (er.ext.trans st.s) (fun b z => ⟨?_, st.t b z⟩) rfl r
      rcases st.g.2 b z with z | z
      · exact (er1.gr.2 b z).elim (fun z => z.elim) id
      · exact er.ext.free z
    · cases z
  | exc c =>
    rw [e2] at q
    intro H' C s hc
    exact q σ H' P C ⟨.of_same s, fun _ z => z⟩ (er.stay s) hc
  | bad => rw [e2] at q; exact q.elim
theorem s_retm {i : Nat} {x : Str} {p : Pos} (hN : X.N[i]? = some x) (hv : Vis X.env.scope x) (hd : (x == ("__debug__" : Str)) = false) (hcd : (x == ("__classdict__" : Str)) = false) : S3 CA cl H0 X (.Return (some (.Name x p)) pos) (.ret (.nm i)) := fun W tk => (ps_ret (pe_var hN hv hd hcd)).imp fun D σ H q => by
  obtain ⟨env, P, er, q⟩ := q
  have q : ResS X.K CA H0 H P W D (rO env (evRet cl (.nm i) env) fun p => .ret p.1 p.2) := q
  unfold evRet at q
  dsimp only at q
  split at q
  · rename_i p he
    obtain ⟨v, o⟩ := p
    have q : Out X.K CA H0.h H0.p (v, o) D.rt := q
    have st : Step H0.p H0.h P H := ⟨er.ext, er.gr, er.trk⟩
    cases o with
    | false =>
      obtain ⟨y, h1, h2⟩ := er.shr i v he
      exact ⟨y, h1, q H P y st (.inl ⟨rfl, h2⟩)⟩
    | true =>
      obtain ⟨b, o2, h2, h3, h4, h5, h6⟩ := er.own i v he
      exact ⟨_, h2, q H P _ st (.inr ⟨rfl, b, o2, rfl, h5, h3, h4, h6⟩)⟩
  · exact q.elim
theorem s_if {s1 s2 : List Stmt} {t1 t2 : List S} (hc : V3 CA cl H0 X c ec) (h1 : Ss3 CA cl H0 X s1 t1) (h2 : Ss3 CA cl H0 X s2 t2) : S3 CA cl H0 X (.If c s1 s2 pos) (.ifs ec t1 t2) := fun W tk => (ps_if (hc.tst W tk) (h1 W tk) (h2 W tk)).imp fun D σ H q => by
  obtain ⟨env, P, er, q⟩ := q
  obtain ⟨P1, g1, er1⟩ := er.frz (kept ec)
  refine ⟨_, P1, er1, (rO_res er1 g1 q).imp fun k q H' P' st => ?_⟩
  cases k with
  | true => exact ⟨_, P', er1.grow st, q.at st.persR⟩
  | false => exact ⟨_, P', er1.grow st, q.at st.persR⟩
theorem s_rse (T : CFs X.K CA) (hc : X.calm = true) {x m : Str} {j k : Nat} {p p2 p3 : Pos} {C : Addr} (hC : CA k = some C) (gC : X.mg x = some (.ref C)) (hg : Gl X x) (hdb : (x == ("__debug__" : Str)) = false) :
    S3 CA cl H0 X (.Raise (some (.Call (.Name x p) [.Constant (.str m) j p2] [] p3)) none pos) (.rse k) := fun W tk => by
  obtain ⟨C0, h0, hF⟩ := T.base ⟨_, _, hC⟩
  have F := hF k C hC
  refine (ps_raise hc tk (pmk_own PySem.F.excBase_ValueError F.made gC F.kp (raises_own F.ex.hs F.ty) hg hdb)).imp fun D σ H q => ?_
  obtain ⟨env, P, er, q⟩ := q
  exact q σ H P C .refl er hC
end
end G

set_option linter.all false
set_option maxHeartbeats 2000000
set_option maxRecDepth 100000
namespace G
open PySem PySem.Spec PyProof.Rows HT
open L2 hiding Takes XE CX takes_of passes_call ps_raise PMk MkP mk_of pmk_own passAt ps_try_as ps_try_many HdsOk
open L2N (Takes XE CX takes_of passes_call ps_raise PMk MkP mk_of pmk_own passAt)
section
variable {K : PySem.W.Frag} {CA : Nat → Option Addr} {H H1 H' H2 : Hp} {H0 : Bs} {P P1 P' P2 : Addr → Prop} {σ : L2.St} {W : WX} {env : Env} {D : Ends}
theorem ER.wrtO (er : ER K CA H0 H P env σ) {i : Nat} {a : Addr} (o : OwnAt env σ i a) {v' : Val} {o' : HO} (r : OwnO K CA H P a v' o') : ER K CA H0 (upd H a o') P (G.put env i v' true) σ ∧ PersR H P (upd H a o') P := by
  obtain ⟨v0, o0, e1, e2, e3, e4, e5, e6⟩ := o.at er
  have pu : Pers P H (upd H a o') := pers_updO e3 e6.mt e4
  have hl : i < env.length := (List.getElem?_eq_some_iff.mp e1).1
  have old : ∀ (j : Nat) p, (G.put env i v' true)[j]? = some (some p) → (i = j ∧ p = (v', true)) ∨ (i ≠ j ∧ env[j]? = some (some p)) := fun j p h => by
    rcases set_get h with ⟨e, h⟩ | h
    · cases h; exact .inl ⟨e, rfl⟩
    · exact .inr h
  refine ⟨{
    ext := same_upd er.ext e5
    gr := er.gr
    trk := fun b z => by
      obtain ⟨ys, e, m⟩ := er.trk b z
      exact ⟨ys, pu b _ e (.inl z), m⟩
    len := by unfold G.put; rw [List.length_set]; exact er.len
    shr := fun j w h => by
      rcases old j _ h with ⟨_, e⟩ | ⟨_, h⟩
      · cases e
      · obtain ⟨x, h1, h2⟩ := er.shr j w h
        exact ⟨x, h1, RV.pers pu (fun _ z => z) w h2⟩
    own := fun j w h => by
      rcases old j _ h with ⟨rfl, e⟩ | ⟨ne, h⟩
      · cases e
        exact ⟨a, o', e2, upd_same, e4, e5, r.pers pu fun _ z => z⟩
      · obtain ⟨b, o2, g2, g3, g4, g5, g6⟩ := er.own j w h
        have hb : b ≠ a := fun z => by
          subst z
          exact ne (er.dis i j _ _ _ e1 h e2 g2)
        exact ⟨b, o2, g2, by rw [upd_ne hb]; exact g3, g4, g5, g6.pers pu fun _ z => z⟩
    dis := fun j k w z b h1 h2 s1 s2 => by
      rcases old j _ h1 with ⟨rfl, _⟩ | ⟨_, h1⟩
      · rcases old k _ h2 with ⟨e, _⟩ | ⟨_, h2⟩
        · exact e
        · exact er.dis i k _ _ b e1 h2 s1 s2
      · rcases old k _ h2 with ⟨rfl, _⟩ | ⟨_, h2⟩
        · exact er.dis j i _ _ b h1 e1 s1 s2
        · exact er.dis j k _ _ b h1 h2 s1 s2 }, ⟨pu, fun _ z => z⟩⟩
theorem ER.wrt (er : ER K CA H0 H P env σ) {i : Nat} {a : Addr} (o : OwnAt env σ i a) {vs' : List Val} {xs' : List V} (r : RVs K CA H P vs' xs') : ER K CA H0 (upd H a (.lst xs')) P (G.put env i (.lst vs') true) σ ∧ PersR H P (upd H a (.lst xs')) P :=
  er.wrtO o (.lst r)
theorem ownL_ok {i : Nat} {vs : List Val} (er : ER K CA H0 H P env σ) (h : ownL env i = .ok vs) : ∃ a xs, OwnAt env σ i a ∧ σ[i]? = some (some (.ref a)) ∧ H a = some (.lst xs) ∧ RVs K CA H P vs xs := by
  unfold ownL at h
  split at h
  · rename_i ws he
    cases h
    obtain ⟨a, o, e2, e3, e4, e5, e6⟩ := er.own i _ he
    cases e6 with
    | lst r => exact ⟨a, _, ⟨⟨_, he⟩, e2⟩, e2, e3, r⟩
  · cases h
theorem ownL_ne {i : Nat} (c : Nat) : ownL env i ≠ .exc c := by
  intro h
  unfold ownL at h
  split at h <;> cases h
end
section
variable {X : Cx} {CA : Nat → Option Addr} {cl : Nat → List Val → G.R (Val × Bool)} {H0 : Bs} {src a b c : Expr} {e ea eb ec : E} {pos : Pos}
theorem s_app {i : Nat} {x : Str} {px pa pc : Pos} (hN : X.N[i]? = some x) (hv : Vis X.env.scope x) (hd : (x == ("__debug__" : Str)) = false) (hcd : (x == ("__classdict__" : Str)) = false) (hline : (pa.endLine == pc.line) = true) (hs : okSrc a = true) (ha : V3 CA cl H0 X a ea) :
    S3 CA cl H0 X (.Expr (.Call (.Attribute (.Name x px) "append" pa) [a] [] pc) pos) (.app i ea) := fun W tk =>
  (ps_expr (pe_bm PySem.F.plainAttrs_list PySem.F.slot_list_append PySem.F.type_list_append mt_append (pe_var hN hv hd hcd) (pa_cons (ha.val W tk) pa_nil (okSrc.st hs _ _)) rfl (by rw [okSrc.st hs]; rfl) hline (okSrc.st hs _ _) rfl)).imp fun D σ H q => by
    obtain ⟨env, P, er, q⟩ := q
    obtain ⟨P1, g1, er1⟩ := er.frz (kept ea)
    have q := rO_res er1 g1 q
    cases e1 : ownL (frzE env ea) i with
    | exc z => exact absurd e1 (ownL_ne _)
    | bad => rw [e1] at q; exact q.elim
    | ok vs =>
      rw [e1] at q
      obtain ⟨ad, xs, o, hσ, hH, hr⟩ := ownL_ok er1 e1
      refine ⟨.ref ad, hσ, .inl ⟨rfl, xs, SqL.of hH⟩, _, P1, er1, (rO_res er1 (fun _ z => z) q).imp fun p q H' P' y st r => ?_⟩
      obtain ⟨P3, st3, g3, r3⟩ := r.rv st
      have er3 := er1.grow st3
      cases hl : lenOk (vs.length + 1) with
      | false => rw [hl] at q; exact q.elim
      | true =>
        rw [hl] at q
        have h3 := st3.s _ _ hH
        have r4 := hr.mono st3.s st3.g.1
        obtain ⟨er4, pr⟩ := er3.wrt o (r4.append (.cons r3 .nil))
        refine ⟨ad, xs, y, rfl, rfl, h3, ?_, q _ _ P3 (st3.persR.trans pr) er4⟩
        rw [← r4.length]
        exact LIM_lt hl
theorem s_ins {i : Nat} {x : Str} {px pa pc : Pos} (hN : X.N[i]? = some x) (hv : Vis X.env.scope x) (hd : (x == ("__debug__" : Str)) = false) (hcd : (x == ("__classdict__" : Str)) = false) (hline : (pa.endLine == pc.line) = true) (hs : okSrc a = true) (hs2 : okSrc b = true) (ha : V3 CA cl H0 X a ea) (hb : V3 CA cl H0 X b eb) :
    S3 CA cl H0 X (.Expr (.Call (.Attribute (.Name x px) "insert" pa) [b, a] [] pc) pos) (.ins i eb ea) := fun W tk =>
  (ps_expr (pe_bm PySem.F.plainAttrs_list PySem.F.slot_list_insert PySem.F.type_list_insert mt_insert (pe_var hN hv hd hcd) (pa_cons (hb.opd W tk) (pa_cons (ha.val W tk) pa_nil (okSrc.st hs _ _)) (okSrc.st hs2 _ _)) rfl (by rw [okSrc.st hs2, okSrc.st hs]; rfl) hline (okSrc.st hs2 _ _) (by rw [okSrc.st hs]; rfl))).imp fun D σ H q => by
    obtain ⟨env, P, er, q⟩ := q
    obtain ⟨P1, g1, er1⟩ := er.frz (kept ea)
    have q := rO_res er1 g1 q
    cases e1 : ownL (frzE env ea) i with
    | exc z => exact absurd e1 (ownL_ne _)
    | bad => rw [e1] at q; exact q.elim
    | ok vs =>
      rw [e1] at q
      obtain ⟨ad, xs, o, hσ, hH, hr⟩ := ownL_ok er1 e1
      refine ⟨.ref ad, hσ, .inl ⟨rfl, xs, SqL.of hH⟩, _, P1, er1, (rO_res er1 (fun _ z => z) q).bind.imp fun kv q H2 P2 z st2 r2 => ?_⟩
      cases kv <;> first | exact q.elim | skip
      rename_i k
      have q : ResS X.K CA H0 H P1 W D (rO (frzE env ea) (evE cl ea (frzE env ea)) fun p => if lenOk (vs.length + 1) && decide (0 ≤ k ∧ k ≤ 1000000) then .nx (put (frzE env ea) i (.lst (vs.take k.toNat ++ [p.1] ++ vs.drop k.toNat)) true) else .bad) := q
      cases r2.int
      have er2 := er1.grow st2
      have q := rO_res er2 (fun _ z => z) (q.at st2.persR)
      refine ⟨_, P2, er2, q.imp fun p q H' P' y st r => ?_⟩
      obtain ⟨P3, st3, g3, r3⟩ := r.rv st
      have er3 := er2.grow st3
      cases hl : (lenOk (vs.length + 1) && decide (0 ≤ k ∧ k ≤ 1000000)) with
      | false => rw [hl] at q; exact q.elim
      | true =>
        rw [hl] at q
        rw [Bool.and_eq_true, decide_eq_true_iff] at hl
        have h3 := st3.s _ _ (st2.s _ _ hH)
        have r4 := (hr.mono st2.s st2.g.1).mono st3.s st3.g.1
        obtain ⟨er4, pr⟩ := er3.wrt o (((r4.take k.toNat).append (.cons r3 .nil)).append (r4.drop k.toNat))
        refine ⟨ad, xs, k, y, rfl, rfl, h3, ?_, hl.2.1, by have := hl.2.2; omega, q _ _ P3 (st3.persR.trans pr) er4⟩
        rw [← r4.length]
        exact LIM_lt hl.1
theorem s_clr {i : Nat} {x : Str} {px pa pc : Pos} (hN : X.N[i]? = some x) (hv : Vis X.env.scope x) (hd : (x == ("__debug__" : Str)) = false) (hcd : (x == ("__classdict__" : Str)) = false) (hline : (pa.endLine == pc.line) = true) :
    S3 CA cl H0 X (.Expr (.Call (.Attribute (.Name x px) "clear" pa) [] [] pc) pos) (.clr i) := fun W tk =>
  (ps_expr (pe_bm0 PySem.F.plainAttrs_list PySem.F.slot_list_clear PySem.F.type_list_clear mt_clear (pe_var hN hv hd hcd) rfl hline)).imp fun D σ H q => by
    obtain ⟨env, P, er, q⟩ := q
    have q := rO_res er (fun _ z => z) q
    cases e1 : ownL env i with
    | exc z => exact absurd e1 (ownL_ne _)
    | bad => rw [e1] at q; exact q.elim
    | ok vs =>
      rw [e1] at q
      obtain ⟨ad, xs, o, hσ, hH, hr⟩ := ownL_ok er e1
      obtain ⟨er4, pr⟩ := er.wrt o (.nil)
      exact ⟨.ref ad, hσ, .inl ⟨rfl, xs, SqL.of hH⟩, ad, xs, rfl, rfl, hH, q _ _ P pr er4⟩
theorem s_rev {i : Nat} {x : Str} {px pa pc : Pos} (hN : X.N[i]? = some x) (hv : Vis X.env.scope x) (hd : (x == ("__debug__" : Str)) = false) (hcd : (x == ("__classdict__" : Str)) = false) (hline : (pa.endLine == pc.line) = true) :
    S3 CA cl H0 X (.Expr (.Call (.Attribute (.Name x px) "reverse" pa) [] [] pc) pos) (.rev i) := fun W tk =>
  (ps_expr (pe_bm0 PySem.F.plainAttrs_list PySem.F.slot_list_reverse PySem.F.type_list_reverse mt_reverse (pe_var hN hv hd hcd) rfl hline)).imp fun D σ H q => by
    obtain ⟨env, P, er, q⟩ := q
    have q := rO_res er (fun _ z => z) q
    cases e1 : ownL env i with
    | exc z => exact absurd e1 (ownL_ne _)
    | bad => rw [e1] at q; exact q.elim
    | ok vs =>
      rw [e1] at q
      obtain ⟨ad, xs, o, hσ, hH, hr⟩ := ownL_ok er e1
      obtain ⟨er4, pr⟩ := er.wrt o hr.reverse
      exact ⟨.ref ad, hσ, .inl ⟨rfl, xs, SqL.of hH⟩, ad, xs, rfl, rfl, hH, q _ _ P pr er4⟩
theorem last_get {α : Type} {l : List α} (h : l.isEmpty = false) : ∃ y, l[l.length - 1]? = some y ∧ l.getLast? = some y := by
  cases l with
  | nil => cases h
  | cons a l =>
    have hl : (a :: l).length - 1 < (a :: l).length := by simp
    exact ⟨_, List.getElem?_eq_getElem hl, by rw [List.getLast?_eq_getElem?, List.getElem?_eq_getElem hl]⟩
theorem s_pop {i : Nat} {x : Str} {px pa pc : Pos} (hN : X.N[i]? = some x) (hv : Vis X.env.scope x) (hd : (x == ("__debug__" : Str)) = false) (hcd : (x == ("__classdict__" : Str)) = false) (hline : (pa.endLine == pc.line) = true) :
    S3 CA cl H0 X (.Expr (.Call (.Attribute (.Name x px) "pop" pa) [] [] pc) pos) (.pop i) := fun W tk =>
  (ps_expr (pe_bm0 PySem.F.plainAttrs_list PySem.F.slot_list_pop PySem.F.type_list_pop mt_pop (pe_var hN hv hd hcd) rfl hline)).imp fun D σ H q => by
    obtain ⟨env, P, er, q⟩ := q
    have q := rO_res er (fun _ z => z) q
    cases e1 : ownL env i with
    | exc z => exact absurd e1 (ownL_ne _)
    | bad => rw [e1] at q; exact q.elim
    | ok vs =>
      rw [e1] at q
      obtain ⟨ad, xs, o, hσ, hH, hr⟩ := ownL_ok er e1
      obtain ⟨er4, pr⟩ := er.wrt o hr.dropLast
      have q : ResS X.K CA H0 H P W D (if vs.isEmpty then .bad else .nx (put env i (.lst vs.dropLast) true)) := q
      cases he : vs.isEmpty with
      | true => rw [he] at q; exact q.elim
      | false =>
        rw [he] at q
        have hx : xs.isEmpty = false := by
          cases hr with
          | nil => cases he
          | cons _ _ => rfl
        obtain ⟨y, hy, _⟩ := last_get hx
        exact ⟨.ref ad, hσ, .inl ⟨rfl, xs, SqL.of hH⟩, ad, xs, y, rfl, rfl, hH, hy, q _ _ P pr er4⟩
theorem s_popu {i : Nat} {is : List Nat} {es : List Expr} {k : Nat} {p px pa pc : Pos} {x : Str} (nd : X.N.Nodup) (hc : X.calm = true) (ht : TgP X (.Tuple es k p) (.tup is)) (hN : X.N[i]? = some x) (hv : Vis X.env.scope x) (hd : (x == ("__debug__" : Str)) = false) (hcd : (x == ("__classdict__" : Str)) = false) (hline : (pa.endLine == pc.line) = true) :
    S3 CA cl H0 X (.Assign [.Tuple es k p] (.Call (.Attribute (.Name x px) "pop" pa) [] [] pc) pos) (.popu is i) := fun W tk =>
  (ps_asg (pe_bm0 PySem.F.plainAttrs_list PySem.F.slot_list_pop PySem.F.type_list_pop mt_pop (pe_var hN hv hd hcd) rfl hline) (pg_tg nd hc ht) rfl rfl rfl).imp fun D σ H q => by
    obtain ⟨env, P, er, q⟩ := q
    have q := rO_res er (fun _ z => z) q
    cases e1 : ownL env i with
    | exc z => exact absurd e1 (ownL_ne _)
    | bad => rw [e1] at q; exact q.elim
    | ok vs =>
      rw [e1] at q
      obtain ⟨ad, xs, o, hσ, hH, hr⟩ := ownL_ok er e1
      obtain ⟨er4, pr⟩ := er.wrt o hr.dropLast
      cases he : vs.getLast? with
      | none =>
        have q : ResS X.K CA H0 H P W D (match vs.getLast? with | some v => (if i ∈ is then .bad else match bindT (.tup is) (put env i (.lst vs.dropLast) true) v with | .ok env' => .nx env' | _ => .bad) | none => .bad) := q
        rw [he] at q; exact q.elim
      | some v =>
        have q : ResS X.K CA H0 H P W D (match vs.getLast? with | some v => (if i ∈ is then .bad else match bindT (.tup is) (put env i (.lst vs.dropLast) true) v with | .ok env' => .nx env' | _ => .bad) | none => .bad) := q
        rw [he] at q
        dsimp only at q
        split at q
        · exact q.elim
        · have hv1 : vs[vs.length - 1]? = some v := by rw [← List.getLast?_eq_getElem?]; exact he
          obtain ⟨y, hy, ry⟩ := hr.get hv1
          refine ⟨.ref ad, hσ, .inl ⟨rfl, xs, SqL.of hH⟩, ad, xs, y, rfl, rfl, hH, by rw [← hr.length]; exact hy, ?_⟩
          have ry2 := RV.pers pr.1 (fun _ z => z) v ry
          cases e2 : bindT (.tup is) (put env i (.lst vs.dropLast) true) v with
          | ok env' =>
            rw [e2] at q
            exact bindT_ok er4 ry2 e2 fun σ' er' _ => q σ' _ P pr er'
          | exc c => rw [e2] at q; exact q.elim
          | bad => rw [e2] at q; exact q.elim
theorem s_popi (hu : X.A.units + 64 < cLine) {i j : Nat} {k : Int} {p1 p2 px pa pc pp : Pos} {x y : Str} {ck : Nat} (nd : X.N.Nodup) (hj : X.N[j]? = some y) (hl : Loc X.env.scope y) (hf : X.fn y = true ∨ X.env.scope.names.lookup y = some .local) (hN : X.N[i]? = some x) (hv : Vis X.env.scope x) (hd : (x == ("__debug__" : Str)) = false) (hcd : (x == ("__classdict__" : Str)) = false) (hline : (pa.endLine == pc.line) = true) :
    S3 CA cl H0 X (.Assign [.Name y pp] (.Subscript (.Call (.Attribute (.Name x px) "pop" pa) [] [] pc) (.Constant (.int k) ck p1) p2) pos) (.popi j i k) := fun W tk =>
  (ps_set nd hj hl (pe_ix (ix_any (CA := CA) hu) (pe_bm0 PySem.F.plainAttrs_list PySem.F.slot_list_pop PySem.F.type_list_pop mt_pop (pe_var hN hv hd hcd) rfl hline) pe_int (okSrc.pi rfl)) (noComp.sw rfl _ _ _) hf).imp fun D σ H q => by
    obtain ⟨env, P, er, q⟩ := q
    have q := rO_res er (fun _ z => z) q
    cases e1 : ownL env i with
    | exc z => exact absurd e1 (ownL_ne _)
    | bad => rw [e1] at q; exact q.elim
    | ok vs =>
      rw [e1] at q
      obtain ⟨ad, xs, o, hσ, hH, hr⟩ := ownL_ok er e1
      obtain ⟨er4, pr⟩ := er.wrt o hr.dropLast
      cases he : vs.getLast? with
      | none =>
        have q : ResS X.K CA H0 H P W D (match vs.getLast? with | some v => (if i = j then .bad else rO env (evIx v (.int k)) fun u => .nx (put (put env i (.lst vs.dropLast) true) j u false)) | none => .bad) := q
        rw [he] at q; exact q.elim
      | some v =>
        have q : ResS X.K CA H0 H P W D (match vs.getLast? with | some v => (if i = j then .bad else rO env (evIx v (.int k)) fun u => .nx (put (put env i (.lst vs.dropLast) true) j u false)) | none => .bad) := q
        rw [he] at q
        dsimp only at q
        split at q
        · exact q.elim
        · have hv1 : vs[vs.length - 1]? = some v := by rw [← List.getLast?_eq_getElem?]; exact he
          obtain ⟨y', hy, ry⟩ := hr.get hv1
          have ry2 := RV.pers pr.1 (fun _ z => z) v ry
          cases e2 : evIx v (.int k) with
          | exc c => exact absurd e2 (evIx_ne _ _ _)
          | bad => rw [e2] at q; exact q.elim
          | ok u =>
            rw [e2] at q
            refine ⟨.ref ad, hσ, .inl ⟨rfl, xs, SqL.of hH⟩, ad, xs, y', rfl, rfl, hH, by rw [← hr.length]; exact hy, ?_⟩
            refine ⟨v, .int k, P, fun _ => False, fun _ => False, er4.trk, .inl ry2, .inl (.int k), ?_⟩
            rw [e2]
            intro H' P' z st r
            obtain ⟨P3, st3, g3, r3⟩ := r.rv st
            exact q _ _ P3 (pr.trans st3.persR) ((er4.grow st3).put r3)
theorem ixPut_ne (xs : List Val) (k : Int) (v : Val) (c : Nat) : ixPut xs k v ≠ .exc c := by
  intro h
  unfold ixPut at h
  split at h <;> cases h
theorem s_six {i : Nat} {x : Str} {px pa : Pos} (hN : X.N[i]? = some x) (hv : Vis X.env.scope x) (hd : (x == ("__debug__" : Str)) = false) (hcd : (x == ("__classdict__" : Str)) = false)
    (hsl : ∀ v, assign (.Subscript (.Name x px) b pa) X.env v = (do
      let ov ← holding [v] (eval (.Name x px) X.env)
      let iv ← holding [v, ov] (eval b X.env)
      standAt pa
      holding [v, ov, iv] (setItem ov iv v)
      release [v, ov, iv] [])) (hs : noComp a = true) (ha : V3 CA cl H0 X a ea) (hb : V3 CA cl H0 X b eb) :
    S3 CA cl H0 X (.Assign [.Subscript (.Name x px) b pa] a pos) (.six i eb ea) := fun W tk =>
  (ps_asg (ha.val W tk) (pg_sub (pe_var hN hv hd hcd) (hb.opd W tk) set_list hsl) (show swapsWithSole [.Subscript (.Name x px) b pa] a pos.line X.env = pure false from noComp.sw hs (some (.Subscript (.Name x px) b pa)) pos.line X.env) rfl rfl).imp fun D σ H q => by
    obtain ⟨env, P, er, q⟩ := q
    obtain ⟨P1, g1, er1⟩ := er.frz (kept ea)
    refine ⟨_, P1, er1, (rO_res er1 g1 q).imp fun p q H' P' y st r => ?_⟩
    obtain ⟨P3, st3, g3, r3⟩ := r.rv st
    have er3 := er1.grow st3
    have q := rO_res er3 (fun _ z => z) (q.at st3.persR)
    cases e1 : ownL (frzE env ea) i with
    | exc z => exact absurd e1 (ownL_ne _)
    | bad => rw [e1] at q; exact q.elim
    | ok vs =>
      rw [e1] at q
      obtain ⟨ad, xs, o, hσ, hH, hr⟩ := ownL_ok er3 e1
      refine ⟨.ref ad, hσ, _, P3, er3, (rO_res er3 (fun _ z => z) q).bind.imp fun kv q H4 P4 z st4 r4 => ?_⟩
      cases kv <;> first | exact q.elim | skip
      rename_i k
      have q : ResS X.K CA H0 H' P3 W D (rO (frzE env ea) (ixPut vs k p.fst) fun ys => O.nx (put (frzE env ea) i (Val.lst ys) true)) := q
      cases r4.int
      have er4 := er3.grow st4
      have q := rO_res er4 (fun _ z => z) (q.at st4.persR)
      have hr4 := hr.mono st4.s st4.g.1
      have e2' : ixPut vs k p.1 = match ixN vs.length k with | some j => .ok (vs.set j p.1) | none => .bad := rfl
      cases e2 : ixN vs.length k with
      | none => rw [e2', e2] at q; exact q.elim
      | some j =>
        rw [e2', e2] at q
        obtain ⟨er5, pr⟩ := er4.wrt o (hr4.set (r3.mono st4.s st4.g.1) j)
        exact ⟨ad, xs, k, j, rfl, rfl, st4.s _ _ hH, by rw [← hr4.length]; exact e2, q _ _ P4 pr er5⟩
theorem s_setLc {i : Nat} {y : Str} {py : Pos} {elt tgsrc iter : Expr} {ifs : List Expr} {scope : Scope} {p : Pos} {tg : Tg} {it : G.It} {cond : Option E} {el : E} {own : List (Str × Nat)}
    (hc : X.calm = true) (hN : X.N.Nodup) (hy : X.N[i]? = some y) (hyl : X.env.scope.names.lookup y = some .local) (hsw : swapsWith (.ListComp elt [⟨tgsrc, iter, ifs, 0⟩] scope p) (some (.Name y py)) pos.line X.env = pure true)
    (hi : VI CA cl H0 X iter it) (hz : TupS it tgsrc) (ok : BlkOk X.N X.env.scope scope own) (ho : own.map (·.2) = tgs tg)
    (hg : ∀ (s : Shared) (H : Hp) (C : Addr) (cl : List (Str × Addr)) (fp : List Addr), TgP (X.blk s H scope (compEnvC scope cl C X.env) fp) tgsrc tg)
    (ht : ∀ (s : Shared) (H : Hp) (C : Addr) (cl' : List (Str × Addr)) (fp : List Addr), PTsOk CA cl H0 (X.blk s H scope (compEnvC scope cl' C X.env) fp) ifs cond)
    (he : ∀ (s : Shared) (H : Hp) (C : Addr) (cl' : List (Str × Addr)) (fp : List Addr), V3 CA cl H0 (X.blk s H scope (compEnvC scope cl' C X.env) fp) elt el) :
    S3 CA cl H0 X (.Assign [.Name y py] (.ListComp elt [⟨tgsrc, iter, ifs, 0⟩] scope p) pos) (.set i (.lc tg it cond el)) := fun W tk => by
  refine (ps_setLc (wi := tI X.K CA cl H0 W SameR it) (g := gT X.K tg) (tt := G.tC X.K CA cl H0 cond) (te := tE X.K CA cl H0 (fun _ _ _ _ => False) el) hc hN hy hyl hsw (hi.comp W tgsrc tk hz) ok (fun s H C cl fp => pg_tg hN hc (hg s H C cl fp)) (fun s H C cl' fp => ?_) (fun s H C cl' fp => (he s H C cl' fp).val _ takes0') (fun x => hi.fs _ x)).imp fun D σ H q => ?_
  · have h := ht s H C cl' fp
    match ifs, cond, h with
    | [], none, _ => exact pts_nil
    | [src], some e, h => exact pts_one (h.tst _ takes0')
  · exact (v3_lc (pos := p) hc hN hi hz ok ho hg ht he).1 W tk σ H _ (set_imp q)
theorem whl_spec {c : Env → G.R Bool} {b : Env → O} {env : Env} : whl c b env = .bad ∨ ∃ n, whlN c b n env = some (whl c b env) := by
  unfold whl
  split
  · rename_i h
    exact .inr ⟨_, Classical.choose_spec (Classical.choose_spec h)⟩
  · exact .inl rfl
theorem s_whl {body : List Stmt} {bs : List S} (hp : PassesOwn (model X.prog X.w) X.A X.env X.xe) (hc : V3 CA cl H0 X c ec) (hb : Ss3 CA cl H0 X body bs) : S3 CA cl H0 X (.While c body [] pos) (.whl ec bs) := fun W tk => (ps_while hp (hc.tst W tk) (hb W tk)).imp fun D σ H q => by
  obtain ⟨env, P, er, q⟩ := q
  obtain ⟨P1, g1, er1⟩ := er.frz (kept ec)
  have q : ResS X.K CA H0 H P W D (whl (fun env' => evT cl ec env') (fun env' => evSs cl bs env') (frzE env ec)) := q
  rcases whl_spec (c := fun env' => evT cl ec env') (b := fun env' => evSs cl bs env') (env := frzE env ec) with e | ⟨n, hn⟩
  · rw [e] at q; exact q.elim
  · refine ⟨fun m σ H => ∃ env P o, ER X.K CA H0 H P env σ ∧ whlN (fun env' => evT cl ec env') (fun env' => evSs cl bs env') m env = some o ∧ ResS X.K CA H0 H P W D o, ⟨n, _, P1, _, er1, hn, q.at ⟨.refl, g1⟩⟩, ?_⟩
    rintro m σ H ⟨env, P, o, er, hm, q⟩
    cases m with
    | zero => cases hm
    | succ m =>
      refine ⟨env, P, er, ?_⟩
      cases e1 : evT cl ec env with
      | exc x =>
        have hm : (some (O.exc x env)) = some o := by have h := hm; simp only [whlN, e1] at h; exact h
        cases hm
        exact fun H' C s hC => q σ H' P C ⟨.of_same s, fun _ z => z⟩ (er.stay s) hC
      | bad =>
        have hm : (some O.bad) = some o := by have h := hm; simp only [whlN, e1] at h; exact h
        cases hm
        exact q
      | ok k =>
        intro H1 P1 st
        cases k with
        | false =>
          have hm : (some (O.nx env)) = some o := by have h := hm; simp only [whlN, e1] at h; exact h
          cases hm
          exact q σ H1 P1 st.persR (er.grow st)
        | true =>
          refine ⟨fun σ' H' => ∃ env P o, ER X.K CA H0 H' P env σ' ∧ whlN (fun env' => evT cl ec env') (fun env' => evSs cl bs env') m env = some o ∧ ResS X.K CA H0 H' P W D o, fun σ' H' h => ⟨m, Nat.lt_succ_self m, h⟩, env, P1, er.grow st, ?_⟩
          have hm : (match evSs cl bs env with | .nx env' => whlN (fun env' => evT cl ec env') (fun env' => evSs cl bs env') m env' | .cnt env' => whlN (fun env' => evT cl ec env') (fun env' => evSs cl bs env') m env' | .brk env' => some (.nx env') | o => some o) = some o := by have h := hm; simp only [whlN, e1] at h; exact h
          have q := q.at st.persR
          cases e2 : evSs cl bs env with
          | nx env' => rw [e2] at hm; exact fun σ' H' P' r er' => ⟨env', P', o, er', hm, q.at r⟩
          | cnt env' => rw [e2] at hm; exact fun σ' H' P' r er' => ⟨env', P', o, er', hm, q.at r⟩
          | brk env' => rw [e2] at hm; cases hm; exact q
          | ret v fr => rw [e2] at hm; cases hm; exact q
          | rtn vs => rw [e2] at hm; cases hm; exact q
          | exc c env' => rw [e2] at hm; cases hm; exact q
          | bad => rw [e2] at hm; cases hm; exact q
theorem s_for {tgsrc iter : Expr} {tg : Tg} {it : G.It} {body : List Stmt} {bs : List S} (hp : PassesOwn (model X.prog X.w) X.A X.env X.xe) (hN : X.N.Nodup) (hc : X.calm = true) (ht : TgP X tgsrc tg) (hi : VI CA cl H0 X iter it) (hz : TupS it tgsrc) (hb : Ss3 CA cl H0 X body bs) :
    S3 CA cl H0 X (.For tgsrc iter body [] pos) (.for tg it bs) := fun W tk => by
  by_cases hbi : borI it = true
  · refine (ps_never (X := X)).imp fun D σ H q => ?_
    obtain ⟨env, P, er, q⟩ := q
    have q : ResS X.K CA H0 H P W D (if borI it then .bad else rO (frzI env it) (evIt cl it (frzI env it)) fun xs => forL tg (fun env' => evSs cl bs env') xs (frzI env it)) := q
    rw [hbi] at q
    exact q
  have hbi : borI it = false := by simpa using hbi
  refine (ps_for hp hc (hi.loop hbi W tgsrc tk hz) (pg_tg hN hc ht) (hb W tk) (fun x => hi.fs _ x)).imp fun D σ H q => ?_
  obtain ⟨env, P, er, q⟩ := q
  obtain ⟨P1, g1, er1⟩ := er.frz (keptI it)
  have q : ResS X.K CA H0 H P W D (if borI it then .bad else rO (frzI env it) (evIt cl it (frzI env it)) fun xs => forL tg (fun env' => evSs cl bs env') xs (frzI env it)) := q
  rw [hbi] at q
  refine ⟨_, P1, er1, (rO_res er1 g1 q).imp fun its q J H1 P2 st src => ?_⟩
  refine ⟨fun i m σ H => i ≤ its.length ∧ m = its.length - i ∧ ∃ env P, PersR H1 P2 H P ∧ ER X.K CA H0 H P env σ ∧ ResS X.K CA H0 H P W D (forL tg (fun env' => evSs cl bs env') (its.drop i) env), ⟨_, Nat.zero_le _, rfl, _, P2, .refl, er1.grow st, by rw [List.drop_zero]; exact q.at st.persR⟩, ?_⟩
  rintro i m σ H ⟨hi, rfl, env, P, pr, er, q⟩
  by_cases hlt : i < its.length
  · right
    refine ⟨src.go i H P pr hlt, fun σ' H' => i + 1 ≤ its.length ∧ ∃ env P, PersR H1 P2 H' P ∧ ER X.K CA H0 H' P env σ' ∧ ResS X.K CA H0 H' P W D (forL tg (fun env' => evSs cl bs env') (its.drop (i + 1)) env), fun σ' H' n => ⟨its.length - (i + 1), by omega, n.1, rfl, n.2⟩, fun x H' hy => ?_⟩
    obtain ⟨sm, v, hv, rv⟩ := src.yld i H P x H' pr hlt hy
    have er := er.stay sm
    have pr := pr.trans ⟨.of_same sm, fun _ z => z⟩
    have q := q.at (r := ⟨.of_same sm, fun _ z => z⟩) (H1 := H') (P1 := P)
    have ed : its.drop i = v :: its.drop (i + 1) := by
      rw [List.drop_eq_getElem_cons hlt]
      congr 1
      rw [List.getElem?_eq_getElem hlt] at hv
      exact Option.some.inj hv
    rw [ed] at q
    have q : ResS X.K CA H0 H' P W D (match bindT tg env v with | .ok env1 => (match evSs cl bs env1 with | .nx env' => forL tg (fun env' => evSs cl bs env') (its.drop (i + 1)) env' | .cnt env' => forL tg (fun env' => evSs cl bs env') (its.drop (i + 1)) env' | .brk env' => .nx env' | o => o) | _ => .bad) := q
    cases e1 : bindT tg env v with
    | exc c => rw [e1] at q; exact q.elim
    | bad => rw [e1] at q; exact q.elim
    | ok env1 =>
      rw [e1] at q
      dsimp only at q
      refine bindT_ok er rv e1 fun σ' er' _ => ⟨env1, P, er', ?_⟩
      cases e2 : evSs cl bs env1 with
      | nx env' => rw [e2] at q; exact fun σ' H2 P' r er' => ⟨hlt, env', P', pr.trans r, er', q.at r⟩
      | cnt env' => rw [e2] at q; exact fun σ' H2 P' r er' => ⟨hlt, env', P', pr.trans r, er', q.at r⟩
      | brk env' => rw [e2] at q; exact q
      | ret v fr => rw [e2] at q; exact q
      | rtn vs => rw [e2] at q; exact q
      | exc c env' => rw [e2] at q; exact q
      | bad => rw [e2] at q; exact q
  · left
    have ei : i = its.length := by omega
    subst ei
    rw [List.drop_length] at q
    exact ⟨src.stop H P pr, q σ H P .refl er⟩
end
end G

set_option linter.all false
set_option maxHeartbeats 2000000
set_option maxRecDepth 100000
namespace G
open PySem PySem.Spec PyProof.Rows HT
open L2 hiding Takes XE CX takes_of passes_call ps_raise PMk MkP mk_of pmk_own passAt ps_try_as ps_try_many HdsOk
open L2N (Takes XE CX takes_of passes_call ps_raise PMk MkP mk_of pmk_own passAt)
section
variable {X : Cx} {pins : List (Addr × Obj)} {σ : L2.St} {H : Hp} {s : Shared}
theorem Inv.track {a : Addr} {o : HO} (I : Inv X pins σ H s) (na : H a = none) (hs0 : X.s_0.heap.get? a = none) (nL : a ≠ X.env.locals) (nc : ∀ x c, X.env.cells.lookup x = some c → c ≠ a) (np : ∀ p ∈ X.pn ++ pins, p.1 ≠ a) (new : ObjOk X.prog X.w (upd H a o) s.heap a o) :
    Inv X pins σ (upd H a o) s where
  ok := I.ok
  os := I.os
  bare := I.bare
  base := {
    keep := I.base.keep
    slot := I.base.slot
    free := fun b u q n hx => by
      have hb : b ≠ a := fun z => by subst z; rw [hs0] at q; cases q
      rw [upd_ne hb]; exact I.base.free b u q n hx
    there := I.base.there
    tups := fun b xs q => by
      have e := I.base.tups b xs q
      rw [upd_ne (ne_of_none e na)]; exact e
    frzs := fun b ob xs q => by
      have e := I.base.frzs b ob xs q
      rw [upd_ne (ne_of_none e na)]; exact e
    tbls := fun b ps q => by
      obtain ⟨m, e⟩ := I.base.tbls b ps q
      exact ⟨m, by rw [upd_ne (ne_of_none e na)]; exact e⟩ }
  loc := I.loc
  cell := I.cell
  free := by rw [upd_ne nL.symm]; exact I.free
  freeC := fun x c h => by rw [upd_ne (nc x c h)]; exact I.freeC x c h
  pin := fun p hp => by
    obtain ⟨h1, h2, h3⟩ := I.pin p hp
    exact ⟨h1, by rw [upd_ne (np p hp)]; exact h2, h3⟩
  hok := HOk.laidN I.hok (fun _ _ z => z) na new
  len := I.len
theorem _root_.L2.Inv.suiteG (I : Inv X pins σ H s) (a : Addr) : Inv (X.suite a (X.pn ++ pins)) [] σ H s :=
  ⟨I.ok.suite _ _, I.os, I.bare, I.base, I.loc, I.cell, I.free, I.freeC, fun p hp => I.pin p (by
    have hp' : p ∈ (X.pn ++ pins) ++ [] := hp
    rw [List.append_nil] at hp'; exact hp'), I.hok, I.len⟩
theorem _root_.L2.Inv.unsuiteG {a : Addr} {pn' : List (Addr × Obj)} (I : Inv (X.suite a (X.pn ++ pins)) pn' σ H s) (ok : X.Ok) : Inv X pins σ H s :=
  ⟨ok, I.os, I.bare, I.base, I.loc, I.cell, I.free, I.freeC, fun p hp => I.pin p (List.mem_append_left _ hp), I.hok, I.len⟩
end
def wG (K : PySem.W.Frag) (c : Value) (i : Nat) (ts : Addr → TS) (Wout : WX) (D : Ends) : WX := fun cls d σ H =>
  ∃ b, PySem.W.exmOne K cls c = some b ∧ (b = true → d = none ∧ ∀ a, H a = none → ts a { nx := fun σ' H' => D.nx (σ'.set i none) H', rt := D.rt, bk := fun σ' H' => D.bk (σ'.set i none) H', ct := fun σ' H' => D.ct (σ'.set i none) H' } (σ.set i (some (.ref a))) (upd H a (ExT cls a))) ∧
    (b = false → Wout cls d σ H)
theorem ps_try_G {X : Cx} {x n : Str} {c : Value} {i : Nat} {body suite : List Stmt} {b₀ : Stmt} {np pos pos' : Pos} {tb : WX → TS} {ts : Addr → TS} {Wout : WX} (hs : X.stack = X.env :: X.outer) (hf : X.env.frame = some X.env.locals) (hex : X.ex = []) (hN : X.N.Nodup) (hi : X.N[i]? = some n) (hln : X.env.kindOf n = some .local) (hc : Names X x c) (tk : Takes X Wout)
    (hb : ∀ (W : WX) (pn : List (Addr × Obj)) (xe : Value → Shared → Prop), Takes (X.tr pn xe) W → PassesOwn (model X.prog X.w) X.A X.env xe → PSs (X.tr pn xe) body (tb W))
    (hsu : ∀ (a : Addr) (pn : List (Addr × Obj)), PSs (X.suite a pn) (b₀ :: suite) (ts a)) :
    PS X (.Try body [.ExceptHandler (some (.Name x np)) (some n) (b₀ :: suite) pos'] [] [] pos) (fun D σ H => tb (wG X.K c i ts Wout D) D σ H) := by
  refine ⟨fun pins s σ H D I h => ?_⟩
  have ok := I.ok
  have hfr : X.A.frames = some (X.env :: X.outer) := by rw [ok.frames, hs]
  have hloc : Loc X.env.scope n := .inl hln
  refine wpAny_Try_except ?_
  refine wpAny_mono ((hb (wG X.K c i ts Wout D) (X.pn ++ pins) (fun e s₁ => wpAny (model X.prog X.w) X.A (noteFrame e X.env) (fun _ s₂ => wpAny (model X.prog X.w) X.A (setFlight e none) (fun _ s₃ =>
    wpAny (model X.prog X.w) X.A (handleBy e X.env [.ExceptHandler (some (.Name x np)) (some n) (b₀ :: suite) pos']) (SP X pins D) X.xe s₃) X.xe s₂) X.xe s₁) (fun u s' xx => ?_) PassesOwn.looking).run [] s σ H D (I.toTry _) h) (fun f s1 hsp => ?_) (fun e s1 he => he)
  · -- the catch
    obtain ⟨a, B, sI, pins', σ', H', cls, d, rfl, J', nb, up, sky, na, os, ag, b, hb1, hyes, hno⟩ := xx
    have J : Inv X pins σ' H' sI := J'.ofTry ok
    have sky' : Sky B (X.env :: X.outer) a (L2N.Zn cls d) X.env.locals s'.heap := by rw [← hs]; exact sky
    show wpAny (model X.prog X.w) X.A (noteFrame (.ref a) X.env) _ _ _
    refine L2N.Sky.land L2N.Zn.steady hfr hf sky' fun h3 fl3 up3 => ?_
    have J3 : Inv X pins σ' H' { s' with heap := h3 } := J.landed nb fl3.1 (up.trans up3) os ag
    obtain ⟨oe3, vs3, he3, hz3, hd3⟩ := fl3.there
    have notFr : ∀ {h : Heap} {o : Obj} {vs : Array Value}, h.FunFrames B (X.env :: X.outer) → h.get? a = some o → o.data = .fields vs → a ∉ frs (X.env :: X.outer) := fun {h o vs} ff e dd hm => by
      obtain ⟨_, o', e', hnf⟩ := ff.mem hm
      rw [e] at e'; cases e'
      exact hnf _ dd
    have nfr := notFr fl3.2.2.1 he3 hd3
    have nL : a ≠ X.env.locals := fun z => nfr (List.mem_filterMap.mpr ⟨X.env, List.mem_cons_self, by rw [hf, z]⟩)
    have nF : a ∉ X.fs := fun hm => by
      obtain ⟨e, he, q⟩ := List.mem_filterMap.mp hm
      exact nfr (List.mem_filterMap.mpr ⟨e, List.mem_cons_of_mem _ he, q⟩)
    have nB : B.get? a = none := fl3.2.1
    have nI : sI.heap.get? a = none := by
      cases e : sI.heap.get? a with
      | none => rfl
      | some o =>
        have := nb a o e (by rw [hs]; exact nfr)
        rw [nB] at this; cases this
    have n0 : X.s_0.heap.get? a = none := by
      cases e : X.s_0.heap.get? a with
      | none => rfl
      | some o =>
        obtain ⟨o', e'⟩ := J.base.there a o e (by rw [hex]; exact List.not_mem_nil)
        rw [nI] at e'; cases e'
    have npin : ∀ p ∈ X.pn ++ pins, p.1 ≠ a := fun p hp z => by
      obtain ⟨h1, _⟩ := J.pin p hp
      rw [z, nI] at h1; cases h1
    have ncell : ∀ x c, X.env.cells.lookup x = some c → c ≠ a := fun x c h z => by
      obtain ⟨v, o, h1, h2⟩ := J.cell x c h
      rw [z, nI] at h1; cases h1
    refine wpAny_handleBy_cons (codeAny_handlers_test ?_) (by intro q; cases q)
    have LT : PySem.W.Looks (model X.prog X.w) h3 (typeOf (.ref a)) cls := fun A Q E s k q => wpAny_typeOf_ref (k _ _ he3) (by rw [hz3.1]; exact q)
    have LM := PySem.W.exm_one (M := model X.prog X.w) (J3.kIn) LT hb1
    have S3 := J3.suiteG a
    have test : ∀ {Q : Value → Shared → Prop} {E : Value → Shared → Prop}, Q c { s' with heap := h3 } → wpAny (model X.prog X.w) (X.A.mark (some (.ref a))) (eval (.Name x np) X.env) Q E { s' with heap := h3 } := fun {Q E} q => by
      obtain ⟨hg, hdbg, hm | ⟨hm, hv, hnn⟩⟩ := hc
      · exact ld_glob (X := X.suite a (X.pn ++ pins)) S3 hg hm q hdbg
      · exact ld_blt (X := X.suite a (X.pn ++ pins)) S3 hg hm hv q hnn hdbg
    refine test (LM.here ?_)
    cases b with
    | true =>
      obtain ⟨hd0, hyes2⟩ := hyes rfl
      subst hd0
      refine codeAny_handlers_suite_as ?_
      refine HandSPX.lands_againZ fl3 fun h4 fl4 up4 => ?_
      have J4 : Inv X pins σ' H' { s' with heap := h4 } := J.landed nb fl4.1 ((up.trans up3).trans up4) os ag
      obtain ⟨oe4, vs4, he4, hz4, hd4⟩ := fl4.there
      have oke : ObjOk X.prog X.w (upd H' a (ExT cls a)) h4 a (ExT cls a) := ⟨⟨oe4, vs4, he4, hz4, hd4⟩, ⟨oe4, he4⟩, fun h1 h2 ⟨oe, vs, e, z, dd⟩ k => ⟨oe, vs, k _ e, z, dd⟩⟩
      have J5 : Inv X pins σ' (upd H' a (ExT cls a)) { s' with heap := h4 } := Inv.track J4 na n0 nL ncell npin oke
      have S4 := J5.suiteG a
      refine store_ok (X := X.suite a (X.pn ++ pins)) (v := .ref a) S4 hN hi hloc rfl (fun s5 S5 => ?_) (.inr hln)
      refine wpAny_mono ((hsu a (X.pn ++ pins)).run [] s5 _ _ _ S5 (hyes2 a na)) (fun f s6 hsp => ?_) (fun _ _ z => False.elim z)
      have end_ : ∀ {σ6 : L2.St} {H6 : Hp} {Q : Shared → Prop}, Inv (X.suite a (X.pn ++ pins)) [] σ6 H6 s6 → (∀ s7, Inv X pins (σ6.set i none) H6 s7 → Q s7) →
          wpAny (model X.prog X.w) X.A (do bindName X.env n .none; unbindBehindTheSuite X.env n pos') (fun _ s7 => Q s7) X.xe s6 := fun {σ6 H6 Q} S6 hq => gone_ok (S6.unsuiteG ok) hN hi hln hq
      cases f with
      | next =>
        obtain ⟨σ6, H6, S6, q6⟩ := hsp
        exact end_ S6 fun s7 J7 => ⟨_, _, J7, q6⟩
      | brk =>
        obtain ⟨σ6, H6, S6, q6⟩ := hsp
        exact end_ S6 fun s7 J7 => ⟨_, _, J7, q6⟩
      | cont =>
        obtain ⟨σ6, H6, S6, q6⟩ := hsp
        exact end_ S6 fun s7 J7 => ⟨_, _, J7, q6⟩
      | ret u =>
        obtain ⟨v6, σ6, H6, S6, r6, q6⟩ := hsp
        exact end_ S6 fun s7 J7 => ⟨_, _, _, J7, r6, q6⟩
    | false =>
      show wpAny _ X.A (handleBy (.ref a) X.env []) _ _ _
      refine wpAny_handleBy_nil ?_
      obtain ⟨k1, k2, k3, oe, vs, T, oT, ts', he, hz, hd, h1, hr⟩ := id fl3
      unfold PySem.passOn
      refine wpAny_bind (wpAny_field he hd h1 ?_)
      rw [if_neg (show ¬ ((Value.ref T == Value.none) = true) from by simp)]
      have fin : wpAny (model X.prog X.w) X.A (setFlight (.ref a) X.env.frame) (fun _ s4 => wpAny (model X.prog X.w) X.A (throw (.ref a) : Sem Flow) (SP X pins D) X.xe s4) X.xe { s' with heap := h3 } := by
        rw [hf]
        refine HandSPX.setFlight_upZ fl3 fun h4 hh4 up4 => wpAny_throw (tk _ _ ?_)
        exact ⟨a, B, sI, pins, σ', H', cls, d, rfl, J, nb, (up.trans up3).trans up4, .inr (.inr (by rw [hs]; exact hh4)), na, os, ag, hno rfl⟩
      first
        | exact wpAny_bind (wpAny_pure (wpAny_bind fin))
        | exact wpAny_bind fin
  · cases f with
    | next =>
      obtain ⟨σ', H', J', q⟩ := hsp
      exact wpAny_execs_nil ⟨σ', H', J'.ofTry ok, q⟩
    | brk =>
      obtain ⟨σ', H', J', q⟩ := hsp
      exact ⟨σ', H', J'.ofTry ok, q⟩
    | cont =>
      obtain ⟨σ', H', J', q⟩ := hsp
      exact ⟨σ', H', J'.ofTry ok, q⟩
    | ret u =>
      obtain ⟨v, σ', H', J', r, q⟩ := hsp
      exact ⟨v, σ', H', J'.ofTry ok, r, q⟩
section
variable {K : PySem.W.Frag} {CA : Nat → Option Addr} {H : Hp} {H0 : Bs} {P : Addr → Prop} {env : Env} {σ : L2.St} {a : Addr} {cls : Value}
theorem ER.up0 (er : ER K CA H0 H P env σ) (ha : H a = some (ExT cls a)) : ER K CA ⟨upd H0.h a (ExT cls a), H0.p⟩ H P env σ where
  ext := fun b o e => by
    have e : upd H0.h a (ExT cls a) b = some o := e
    by_cases hb : b = a
    · subst hb
      rw [upd_same] at e
      cases e; exact ha
    · rw [upd_ne hb] at e; exact er.ext b o e
  gr := ⟨er.gr.1, fun b hb => (er.gr.2 b hb).imp id fun e => by
    by_cases h : b = a
    · subst h
      obtain ⟨xs, e2, m⟩ := er.trk b hb
      rw [ha] at e2
      cases e2
      exact absurd (Fix.ext _ _) m.nf
    · show upd H0.h a (ExT cls a) b = none
      rw [upd_ne h]; exact e⟩
  trk := er.trk
  len := er.len
  shr := er.shr
  own := fun i v e => by
    obtain ⟨b, o, h2, h3, h4, h5, h6⟩ := er.own i v e
    refine ⟨b, o, h2, h3, h4, ?_, h6⟩
    have hb : b ≠ a := fun z => by
      subst z
      rw [ha] at h3
      cases h3
      exact absurd (Fix.ext _ _) h6.mt.nf
    show upd H0.h a (ExT cls a) b = none
    rw [upd_ne hb]; exact h5
  dis := er.dis
theorem upd_none {H : Hp} {a b : Addr} {o : HO} (h : upd H a o b = none) : H b = none := by
  by_cases hb : b = a
  · subst hb; rw [upd_same] at h; cases h
  · rw [upd_ne hb] at h; exact h
theorem ER.down0 (er : ER K CA ⟨upd H0.h a (ExT cls a), H0.p⟩ H P env σ) (n0 : H0.h a = none) : ER K CA H0 H P env σ where
  ext := fun b o e => er.ext b o (by
    have hb : b ≠ a := fun z => by subst z; rw [n0] at e; cases e
    show upd H0.h a (ExT cls a) b = some o
    rw [upd_ne hb]; exact e)
  gr := ⟨er.gr.1, fun b hb => (er.gr.2 b hb).imp id upd_none⟩
  trk := er.trk
  len := er.len
  shr := er.shr
  own := fun i v e => by
    obtain ⟨b, o, h2, h3, h4, h5, h6⟩ := er.own i v e
    exact ⟨b, o, h2, h3, h4, upd_none h5, h6⟩
  dis := er.dis
end
theorem CFs.exm {K : PySem.W.Frag} {CA : Nat → Option Addr} (T : CFs K CA) {c d : Nat} {C D : Addr} (hc : CA c = some C) (hd : CA d = some D) : PySem.W.exmOne K (.ref C) (.ref D) = some (excSub c d) := by
  obtain ⟨C0, h0, hF⟩ := T.base ⟨_, _, hc⟩
  have FC := hF c C hc
  have FD := hF d D hd
  unfold PySem.W.exmOne
  rw [if_pos (by rw [FD.ex.hs]; rfl)]
  have h1 := T.one hc hd
  unfold PySem.W.kitOne at h1
  by_cases e : c = d
  · subst e
    rw [hc] at hd
    cases hd
    show (if ((PySem.W.clsIn K C).isSome && PySem.W.typeIn K (.ref C) == some (.type "type")) = true then PySem.W.subIn K (.ref C) (.ref C) else none) = _
    rw [if_pos FC.isC, FC.sub]
    congr 1
    have : excSub c c = true := by simp [excSub]
    rw [this, List.contains_eq_mem]
    refine decide_eq_true ?_
    split <;> simp
  · have hne : C ≠ D := fun z => e (T.inj c d C hc (by rw [z]; exact hd))
    rw [if_neg (by simpa using hne)] at h1
    exact h1
section
variable {X : Cx} {CA : Nat → Option Addr} {cl : Nat → List Val → G.R (Val × Bool)} {H0 : Bs} {pos : Pos}
theorem s_try (T : CFs X.K CA) {x n : Str} {k i : Nat} {C : Addr} {body suite : List Stmt} {b₀ : Stmt} {np pos' : Pos} {bs hs' : List S} (hs : X.stack = X.env :: X.outer) (hf : X.env.frame = some X.env.locals) (hex : X.ex = []) (hN : X.N.Nodup) (hi : X.N[i]? = some n) (hln : X.env.kindOf n = some .local)
    (hC : CA k = some C) (gC : X.mg x = some (.ref C)) (hg : Gl X x) (hdb : (x == ("__debug__" : Str)) = false)
    (hb : ∀ (pn : List (Addr × Obj)) (xe : Value → Shared → Prop), PassesOwn (model X.prog X.w) X.A X.env xe → Ss3 CA cl H0 (X.tr pn xe) body bs)
    (hsu : ∀ (a : Addr) (pn : List (Addr × Obj)) (H0 : Bs), HotS H0 (X.suite a pn) → Ss3 CA cl H0 (X.suite a pn) (b₀ :: suite) hs') :
    S3 CA cl H0 X (.Try body [.ExceptHandler (some (.Name x np)) (some n) (b₀ :: suite) pos'] [] [] pos) (.trya bs k i hs') := fun W tk => by
  refine (ps_try_G (c := .ref C) (tb := fun W' => tSs X.K CA cl H0 W' bs) (ts := fun a D σ H => ∃ H0 : Bs, (∃ cls, H0.h a = some (ExT cls a)) ∧ tSs X.K CA cl H0 (fun _ _ _ _ => False) hs' D σ H) (Wout := W) hs hf hex hN hi hln ⟨hg, hdb, .inl gC⟩ tk (fun W' pn xe tk' po => hb pn xe po W' tk') (fun a pn => ⟨fun pins s σ H D I h => by
    obtain ⟨H0, ⟨cls, hc⟩, h⟩ := h
    exact (hsu a pn H0 ⟨a, cls, rfl, hc⟩ _ takes0').run pins s σ H D I h⟩)).imp fun D σ H q => ?_
  obtain ⟨env, P, er, q⟩ := q
  have q : ResS X.K CA H0 H P W D (match evSs cl bs env with
    | .exc x env' => if excSub x k then (match evSs cl hs' (put env' i (.exc x) false) with
      | .nx env2 => .nx (env2.set i none)
      | .ret v fr => .ret v fr
      | _ => .bad) else .exc x env'
    | o => o) := q
  refine ⟨env, P, er, ?_⟩
  cases e1 : evSs cl bs env with
  | nx env' => rw [e1] at q; exact q
  | brk env' => rw [e1] at q; exact q
  | cnt env' => rw [e1] at q; exact q
  | ret v fr => rw [e1] at q; exact q
  | rtn vs => rw [e1] at q; exact q
  | bad => rw [e1] at q; exact q
  | exc z env' =>
    rw [e1] at q
    dsimp only at q
    intro σ' H' P' Z pr er' hZ
    refine ⟨excSub z k, T.exm hZ hC, fun hb => ⟨rfl, fun a na => ?_⟩, fun hb => ?_⟩
    · rw [if_pos hb] at q
      have sa : Same H' (upd H' a (ExT (.ref Z) a)) := same_new na
      have pr2 : PersR H' P' (upd H' a (ExT (.ref Z) a)) P' := ⟨.of_same sa, fun _ z => z⟩
      have er2 : ER X.K CA H0 (upd H' a (ExT (.ref Z) a)) P' (put env' i (.exc z) false) (σ'.set i (some (.ref a))) := (er'.stay sa).put (.exc hZ upd_same)
      have n0 : H0.h a = none := by
        cases e : H0.h a with
        | none => rfl
        | some o => have := er'.ext a o e; rw [na] at this; cases this
      refine ⟨⟨upd H0.h a (ExT (.ref Z) a), H0.p⟩, ⟨_, upd_same⟩, _, P', er2.up0 upd_same, ?_⟩
      cases e2 : evSs cl hs' (put env' i (.exc z) false) with
      | nx env2 =>
        rw [e2] at q
        intro σ6 H6 P6 pr6 er6
        refine q (σ6.set i none) H6 P6 ((pr.trans pr2).trans pr6) ((er6.down0 n0).less (List.length_set ..) (List.length_set ..) fun j p h => ?_)
        rcases set_get h with ⟨_, e⟩ | ⟨ne, h⟩
        · cases e
        · exact ⟨h, List.getElem?_set_ne ne⟩
      | ret v fr =>
        rw [e2] at q
        have q : Out X.K CA H0.h H0.p (v, fr) D.rt := q
        have sa0 : Same H0.h (upd H0.h a (ExT (.ref Z) a)) := same_new n0
        exact fun H9 P9 x9 s9 r9 => q H9 P9 x9 ⟨sa0.trans s9.s, Grow.trans .refl sa0 s9.g, s9.t⟩ (r9.back sa0)
      | rtn vs => rw [e2] at q; exact q.elim
      | brk env2 => rw [e2] at q; exact q.elim
      | cnt env2 => rw [e2] at q; exact q.elim
      | exc c env2 => rw [e2] at q; exact q.elim
      | bad => rw [e2] at q; exact q.elim
    · rw [if_neg (by rw [hb]; exact Bool.false_ne_true)] at q
      exact q σ' H' P' Z pr er' hZ
end
end G

set_option linter.all false
set_option maxHeartbeats 2000000
set_option maxRecDepth 100000
namespace G
open PySem PySem.Spec PyProof.Rows HT
open L2 hiding Takes XE CX takes_of passes_call ps_raise PMk MkP mk_of pmk_own passAt ps_try_as ps_try_many HdsOk
open L2N (Takes XE CX takes_of passes_call ps_raise PMk MkP mk_of pmk_own passAt)
mutual
/-- what holds no list is not hidden -/
theorem hide_noL (m : List Val) : ∀ v : Val, noL v = true → hideV m v = v
  | .tup vs, h => by
    show Val.tup (hideVs m vs) = _
    rw [hides_noL m vs h]
  | .lst _, h => by cases h
  | .hid, h => by cases h
  | .fn _, _ => rfl
  | .non, _ => rfl
  | .bl _, _ => rfl
  | .int _, _ => rfl
  | .str _, _ => rfl
  | .exc _, _ => rfl
  | .scr _, _ => rfl
theorem hides_noL (m : List Val) : ∀ vs : List Val, noLs vs = true → hideVs m vs = vs
  | [], _ => rfl
  | v :: vs, h => by
    have h : (noL v && noLs vs) = true := h
    rw [Bool.and_eq_true] at h
    show hideV m v :: hideVs m vs = _
    rw [hide_noL m v h.1, hides_noL m vs h.2]
end
mutual
theorem hideA_noL : ∀ v : Val, noL v = true → hideAV v = v
  | .tup vs, h => by
    show Val.tup (hideAVs vs) = _
    rw [hidesA_noL vs h]
  | .lst _, h => by cases h
  | .hid, h => by cases h
  | .fn _, _ => rfl
  | .non, _ => rfl
  | .bl _, _ => rfl
  | .int _, _ => rfl
  | .str _, _ => rfl
  | .exc _, _ => rfl
  | .scr _, _ => rfl
theorem hidesA_noL : ∀ vs : List Val, noLs vs = true → hideAVs vs = vs
  | [], _ => rfl
  | v :: vs, h => by
    have h : (noL v && noLs vs) = true := h
    rw [Bool.and_eq_true] at h
    show hideAV v :: hideAVs vs = _
    rw [hideA_noL v h.1, hidesA_noL vs h.2]
end
def Fun2 (K : PySem.W.Frag) (H : Hp) : Prop := ∀ a xs ys, SqT K H a xs → SqT K H a ys → xs.length = ys.length
theorem inv_fun2 {X : Cx} {pins : List (Addr × Obj)} {σ : L2.St} {H : Hp} {s : Shared} (I : Inv X pins σ H s) : Fun2 X.K H := fun a xs ys h1 h2 => by
  obtain ⟨i1, r1, ⟨o1, ho1, _, n1, hd1⟩, _⟩ := I.tuple h1
  obtain ⟨i2, r2, ⟨o2, ho2, _, n2, hd2⟩, _⟩ := I.tuple h2
  rw [ho1] at ho2
  cases ho2
  rw [hd1] at hd2
  have e : i1.toArray = i2.toArray := by injection hd2
  have e2 : i1 = i2 := by simpa using congrArg Array.toList e
  rw [r1.length, r2.length, e2]
section
variable {K : PySem.W.Frag} {CA : Nat → Option Addr} {H H' H2 Hz : Hp} {H0 : Bs} {P P' P2 P3 : Addr → Prop}
theorem kdiff_no (F : Fun2 K H) {v w : Val} {x : V} (r1 : RV K CA H P v x) (r2 : RV K CA H P' w x) : kdiff v w = false := by
  cases r1 <;> cases r2 <;> first | rfl | skip
  case tup.tup a xs vs s t ys ws t2 s2 =>
    show (!decide (vs.length = ws.length)) = false
    rw [t.length, t2.length, decide_eq_true (F _ _ _ s s2)]; rfl
theorem differ_no (F : Fun2 K H) {vs ws : List Val} {xs : List V} (r1 : RVs K CA H P vs xs) (r2 : RVs K CA H P' ws xs) : differ vs ws = false := by
  cases r1 with
  | nil => cases r2; rfl
  | cons a b =>
    cases r2 with
    | cons a2 b2 => exact kdiff_no F a a2
structure Ma (K : PySem.W.Frag) (CA : Nat → Option Addr) (H : Hp) (P : Addr → Prop) (a : Addr) (m : List Val) (xs : List V) : Prop where
  h : H a = some (.lst xs)
  r : RVs K CA H P m xs
  f : Fun2 K H
mutual
/-- the lists that a value is read through -/
inductive Oc (K : PySem.W.Frag) (CA : Nat → Option Addr) (H : Hp) (P : Addr → Prop) : Val → V → Addr → Prop
  | tup {a b : Addr} {xs : List V} {vs : List Val} : SqT K H a xs → Ocs K CA H P vs xs b → Oc K CA H P (.tup vs) (.ref a) b
  | lst {a : Addr} {xs : List V} {vs : List Val} : P a → H a = some (.lst xs) → RVs K CA H P vs xs → Oc K CA H P (.lst vs) (.ref a) a
  | lstI {a b : Addr} {xs : List V} {vs : List Val} : P a → H a = some (.lst xs) → Ocs K CA H P vs xs b → Oc K CA H P (.lst vs) (.ref a) b
  | hid {a : Addr} {xs : List V} : P a → H a = some (.lst xs) → Oc K CA H P .hid (.ref a) a
  | dct {a : Addr} {ds : DL} : P a → H a = some (DctO ds a) → Oc K CA H P (.dct (dvl ds)) (.ref a) a
  | dk {a : Addr} {kvs : List (Key × V)} {vs : List Val} : P a → H a = some (.dK kvs) → Oc K CA H P (.dk (kvs.map fun kv => kG kv.1) vs) (.ref a) a
inductive Ocs (K : PySem.W.Frag) (CA : Nat → Option Addr) (H : Hp) (P : Addr → Prop) : List Val → List V → Addr → Prop
  | head {v : Val} {x : V} {vs : List Val} {xs : List V} {b : Addr} : Oc K CA H P v x b → Ocs K CA H P (v :: vs) (x :: xs) b
  | tail {v : Val} {x : V} {vs : List Val} {xs : List V} {b : Addr} : Ocs K CA H P vs xs b → Ocs K CA H P (v :: vs) (x :: xs) b
end
mutual
theorem oc_rv {Q : Addr → Prop} : ∀ (v : Val) {x : V}, RV K CA H P v x → (∀ b, Oc K CA H P v x b → Q b) → RV K CA H Q v x
  | .non, _, r, _ => by cases r; exact .non
  | .bl b, _, r, _ => by cases r; exact .bl b
  | .int i, _, r, _ => by cases r; exact .int i
  | .str z, _, r, _ => by cases r; exact .str z
  | .tup vs, _, r, h => by
    cases r with
    | tup q t => exact .tup q (oc_rvs vs t fun b o => h b (.tup q o))
  | .lst vs, _, r, h => by
    cases r with
    | lst p q t => exact .lst (h _ (.lst p q t)) q (oc_rvs vs t fun b o => h b (.lstI p q o))
  | .scr ns, _, r, _ => by
    cases r with
    | scr q => exact .scr q
  | .exc c, _, r, _ => by
    cases r with
    | exc c q => exact .exc c q
  | .hid, _, r, h => by
    cases r with
    | hid p q => exact .hid (h _ (.hid p q)) q
  | .fn k, _, r, _ => by
    cases r with
    | fn e => exact .fn e
  | .dct k, _, r, h => by
    cases r with
    | dct p q k => exact .dct (h _ (.dct p q)) q k
  | .dk ks vs, _, r, h => by
    cases r with
    | dk p q n t => exact .dk (h _ (.dk p q)) q n (RVs.noL vs n t)
theorem oc_rvs {Q : Addr → Prop} : ∀ (vs : List Val) {xs : List V}, RVs K CA H P vs xs → (∀ b, Ocs K CA H P vs xs b → Q b) → RVs K CA H Q vs xs
  | [], _, r, _ => by cases r; exact .nil
  | v :: vs, _, r, h => by
    cases r with
    | cons r t => exact .cons (oc_rv v r fun b o => h b (.head o)) (oc_rvs vs t fun b o => h b (.tail o))
end
mutual
theorem oc_p : ∀ (v : Val) {x : V} {b : Addr}, Oc K CA H P v x b → P b
  | .tup vs, _, _, o => by
    cases o with
    | tup _ o => exact ocs_p vs o
  | .lst vs, _, _, o => by
    cases o with
    | lst p _ _ => exact p
    | lstI _ _ o => exact ocs_p vs o
  | .hid, _, _, o => by
    cases o with
    | hid p _ => exact p
  | .dct _, _, _, o => by
    cases o with
    | dct p _ => exact p
  | .dk _ _, _, _, o => by
    cases o with
    | dk p _ => exact p
  | .non, _, _, o => nomatch o
  | .bl _, _, _, o => nomatch o
  | .int _, _, _, o => nomatch o
  | .str _, _, _, o => nomatch o
  | .scr _, _, _, o => nomatch o
  | .exc _, _, _, o => nomatch o
theorem ocs_p : ∀ (vs : List Val) {xs : List V} {b : Addr}, Ocs K CA H P vs xs b → P b
  | [], _, _, o => nomatch o
  | v :: vs, _, _, o => by
    cases o with
    | head o => exact oc_p v o
    | tail o => exact ocs_p vs o
end
mutual
/-- what is apart is not read through the changed list -/
theorem apart_oc {a : Addr} {m : List Val} {xs : List V} (M : Ma K CA H P' a m xs) (s : Same Hz H) : ∀ (v : Val) {x : V} {b : Addr}, apartV m v = true → Oc K CA Hz P v x b → b ≠ a
  | .tup vs, _, _, h, o => by
    cases o with
    | tup _ o => exact apart_ocs M s vs h o
  | .lst vs, _, _, h, o => by
    have h : (differ m vs && apartVs m vs) = true := h
    rw [Bool.and_eq_true] at h
    cases o with
    | lst p q t =>
      intro e
      subst e
      have q2 := s _ _ q
      rw [M.h] at q2
      cases q2
      have := differ_no M.f M.r (t.mono s fun _ z => z)
      rw [h.1] at this; cases this
    | lstI _ _ o => exact apart_ocs M s vs h.2 o
  | .hid, _, _, h, o => by cases h
  | .dct _, _, _, _, o => by
    cases o with
    | dct p q =>
      intro e
      subst e
      have q2 := s _ _ q
      rw [M.h] at q2
      unfold DctO at q2; cases q2
  | .dk _ _, _, _, _, o => by
    cases o with
    | dk p q =>
      intro e
      subst e
      have q2 := s _ _ q
      rw [M.h] at q2
      cases q2
  | .non, _, _, _, o => nomatch o
  | .bl _, _, _, _, o => nomatch o
  | .int _, _, _, _, o => nomatch o
  | .str _, _, _, _, o => nomatch o
  | .scr _, _, _, _, o => nomatch o
  | .exc _, _, _, _, o => nomatch o
theorem apart_ocs {a : Addr} {m : List Val} {xs : List V} (M : Ma K CA H P' a m xs) (s : Same Hz H) : ∀ (vs : List Val) {ys : List V} {b : Addr}, apartVs m vs = true → Ocs K CA Hz P vs ys b → b ≠ a
  | [], _, _, _, o => nomatch o
  | v :: vs, _, _, h, o => by
    have h : (apartV m v && apartVs m vs) = true := h
    rw [Bool.and_eq_true] at h
    cases o with
    | head o => exact apart_oc M s v h.1 o
    | tail o => exact apart_ocs M s vs h.2 o
end
theorem upd_at {a : Addr} {o : HO} : upd H a o a = some o := by unfold upd; rw [if_pos rfl]
theorem upd_off {a b : Addr} {o : HO} (h : b ≠ a) : upd H a o b = H b := by unfold upd; rw [if_neg h]
theorem sqT_upd {K : PySem.W.Frag} {H : Hp} {a b : Addr} {xs : List V} {o' : HO} {zs : List V} (M : H a = some (.lst xs)) (q : SqT K H b zs) : SqT K (upd H a o') b zs := by
  rcases q with (q | ⟨o, q⟩) | q
  · exact .inl (.inl (by rw [upd_off (fun e => by subst e; rw [M] at q; cases q)]; exact q))
  · exact .inl (.inr ⟨o, by rw [upd_off (fun e => by subst e; rw [M] at q; cases q)]; exact q⟩)
  · exact .inr q
theorem dct_upd {H : Hp} {a b : Addr} {xs : List V} {o' : HO} {ds : DL} (M : H a = some (.lst xs)) (q : H b = some (DctO ds b)) : upd H a o' b = some (DctO ds b) := by
  rw [upd_off (fun e => by subst e; rw [M] at q; unfold DctO at q; cases q)]; exact q
theorem dk_upd {H : Hp} {a b : Addr} {xs : List V} {o' : HO} {kvs : List (Key × V)} (M : H a = some (.lst xs)) (q : H b = some (.dK kvs)) : upd H a o' b = some (.dK kvs) := by
  rw [upd_off (fun e => by subst e; rw [M] at q; cases q)]; exact q
mutual
theorem hide_rv {a : Addr} {m : List Val} {xs ys : List V} (M : Ma K CA H P' a m xs) : ∀ (v : Val) {x : V}, RV K CA H P v x → RV K CA (upd H a (.lst ys)) P (hideV m v) x
  | .non, _, r => by cases r; exact .non
  | .bl b, _, r => by cases r; exact .bl b
  | .int i, _, r => by cases r; exact .int i
  | .str z, _, r => by cases r; exact .str z
  | .tup vs, _, r => by
    cases r with
    | @tup b zs _ q t =>
      refine .tup ?_ (hide_rvs M vs t)
      rcases q with (q | ⟨o, q⟩) | q
      · exact .inl (.inl (by rw [upd_off (fun e => by subst e; rw [M.h] at q; cases q)]; exact q))
      · exact .inl (.inr ⟨o, by rw [upd_off (fun e => by subst e; rw [M.h] at q; cases q)]; exact q⟩)
      · exact .inr q
  | .lst vs, _, r => by
    cases r with
    | @lst b zs _ p q t =>
      show RV K CA _ P (if differ m vs = true then .lst (hideVs m vs) else .hid) _
      by_cases e : b = a
      · subst e
        rw [M.h] at q
        cases q
        rw [differ_no M.f M.r t, if_neg (by decide)]
        exact .hid p upd_at
      · split
        · exact .lst p (by rw [upd_off e]; exact q) (hide_rvs M vs t)
        · exact .hid p (by rw [upd_off e]; exact q)
  | .fn k, _, r => by
    cases r with
    | fn e => exact .fn e
  | .scr ns, _, r => by
    cases r with
    | scr q =>
      refine .scr ?_
      rcases q with ⟨o, q⟩ | q
      · exact .inl ⟨o, by rw [upd_off (fun e => by subst e; rw [M.h] at q; cases q)]; exact q⟩
      · exact .inr q
  | .exc c, _, r => by
    cases r with
    | exc c q => exact .exc c (by rw [upd_off (fun e => by subst e; rw [M.h] at q; unfold ExT at q; cases q)]; exact q)
  | .hid, _, r => by
    cases r with
    | @hid b zs p q =>
      by_cases e : b = a
      · subst e; exact .hid p upd_at
      · exact .hid p (by rw [upd_off e]; exact q)
  | .dct k, _, r => by
    cases r with
    | dct p q k => exact .dct p (dct_upd M.h q) fun d hd => sqT_upd M.h (k d hd)
  | .dk ks vs, _, r => by
    cases r with
    | dk p q n t =>
      refine .dk p (dk_upd M.h q) n ?_
      have := hide_rvs (ys := ys) M vs t
      rw [hides_noL m vs n] at this
      exact this
theorem hide_rvs {a : Addr} {m : List Val} {xs ys : List V} (M : Ma K CA H P' a m xs) : ∀ (vs : List Val) {zs : List V}, RVs K CA H P vs zs → RVs K CA (upd H a (.lst ys)) P (hideVs m vs) zs
  | [], _, r => by cases r; exact .nil
  | v :: vs, _, r => by
    cases r with
    | cons r t => exact .cons (hide_rv M v r) (hide_rvs M vs t)
end
def Ent (K : PySem.W.Frag) (CA : Nat → Option Addr) (H0 : Bs) (args : List Val) : Prop := ∃ (P : Addr → Prop) (xs : List V), ∀ b, H0.p b → Ocs K CA H0.h P args xs b
variable {env : Env} {σ : L2.St} {args : List Val}
theorem hideE_get {m : List Val} {env : Env} {i : Nat} {p : Val × Bool} (h : (hideE m env)[i]? = some (some p)) : ∃ v, env[i]? = some (some (v, p.2)) ∧ ((p.2 = false ∧ p.1 = hideV m v) ∨ (p.2 = true ∧ ((∃ vs, v = .lst vs ∧ p.1 = .lst (hideVs m vs)) ∨ (p.1 = v ∧ ∀ vs, v ≠ .lst vs)))) := by
  unfold hideE at h
  rw [List.getElem?_map] at h
  cases e : env[i]? with
  | none => rw [e] at h; cases h
  | some o =>
    rw [e] at h
    cases o with
    | none => cases h
    | some q =>
      obtain ⟨v, f⟩ := q
      have h : hideS m (some (v, f)) = some p := by simpa using h
      cases f with
      | false => cases h; exact ⟨v, rfl, .inl ⟨rfl, rfl⟩⟩
      | true =>
        cases v with
        | lst vs => cases h; exact ⟨_, rfl, .inr ⟨rfl, .inl ⟨vs, rfl, rfl⟩⟩⟩
        | _ => cases h; exact ⟨_, rfl, .inr ⟨rfl, .inr ⟨rfl, fun vs z => by cases z⟩⟩⟩
theorem ER.hide (er : ER K CA H0 H P env σ) (E : Ent K CA H0 args) {a : Addr} {m : List Val} {xs ys : List V} (M : Ma K CA H P a m xs) (pa : P a) (ha : apartVs m args = true) : ER K CA H0 (upd H a (.lst ys)) P (hideE m env) σ := by
  have hn : H0.h a = none := by
    rcases er.gr.2 a pa with z | z
    · obtain ⟨P0, xs0, h⟩ := E
      exact absurd rfl (apart_ocs M er.ext args ha (h a z))
    · exact z
  exact {
    ext := fun b o e => by
      rw [upd_off (fun z => by subst z; rw [hn] at e; cases e)]
      exact er.ext b o e
    gr := er.gr
    trk := fun b z => by
      by_cases e : b = a
      · subst e; exact ⟨_, upd_at, .l⟩
      · rw [upd_off e]; exact er.trk b z
    len := by unfold hideE; rw [List.length_map]; exact er.len
    shr := fun i v h => by
      obtain ⟨w, h1, h2⟩ := hideE_get h
      rcases h2 with ⟨_, h2⟩ | ⟨z, _⟩
      · obtain ⟨x, g1, g2⟩ := er.shr i w h1
        exact ⟨x, g1, by rw [show v = hideV m w from h2]; exact hide_rv M w g2⟩
      · cases z
    own := fun i v h => by
      obtain ⟨w, h1, h2⟩ := hideE_get h
      rcases h2 with ⟨z, _⟩ | ⟨_, h2⟩
      · cases z
      · obtain ⟨b, o, e2, e3, e4, e5, e6⟩ := er.own i w h1
        have ne : b ≠ a := fun z => by subst z; exact e4 pa
        have e3' : upd H a (.lst ys) b = some o := by rw [upd_off ne]; exact e3
        cases e6 with
        | @lst vs zs r =>
          rcases h2 with ⟨vs', e, h2⟩ | ⟨_, h2⟩
          · cases e
            rw [show v = _ from h2]
            exact ⟨b, _, e2, e3', e4, e5, .lst (hide_rvs M vs r)⟩
          · exact absurd rfl (h2 vs)
        | dct k =>
          rcases h2 with ⟨vs', e, _⟩ | ⟨h2, _⟩
          · cases e
          · rw [show v = _ from h2]
            exact ⟨b, _, e2, e3', e4, e5, .dct fun d hd => sqT_upd M.h (k d hd)⟩
        | @dk kvs vs n r =>
          rcases h2 with ⟨vs', e, _⟩ | ⟨h2, _⟩
          · cases e
          · rw [show v = _ from h2]
            have r' := hide_rvs (ys := ys) M vs r
            rw [hides_noL m vs n] at r'
            exact ⟨b, _, e2, e3', e4, e5, .dk n r'⟩
    dis := fun i j v w b h1 h2 => by
      obtain ⟨v', g1, _⟩ := hideE_get h1
      obtain ⟨w', g2, _⟩ := hideE_get h2
      exact er.dis i j v' w' b g1 g2 }
theorem hideAE_get {env : Env} {i : Nat} {p : Val × Bool} (h : (hideAE env)[i]? = some (some p)) : ∃ v, env[i]? = some (some (v, p.2)) ∧ ((p.2 = false ∧ p.1 = hideAV v) ∨ (p.2 = true ∧ ((∃ vs, v = .lst vs ∧ p.1 = .lst (hideAVs vs)) ∨ (p.1 = v ∧ ∀ vs, v ≠ .lst vs)))) := by
  unfold hideAE at h
  rw [List.getElem?_map] at h
  cases e : env[i]? with
  | none => rw [e] at h; cases h
  | some o =>
    rw [e] at h
    cases o with
    | none => cases h
    | some q =>
      obtain ⟨v, f⟩ := q
      have h : hideAS (some (v, f)) = some p := by simpa using h
      cases f with
      | false => cases h; exact ⟨v, rfl, .inl ⟨rfl, rfl⟩⟩
      | true =>
        cases v with
        | lst vs => cases h; exact ⟨_, rfl, .inr ⟨rfl, .inl ⟨vs, rfl, rfl⟩⟩⟩
        | _ => cases h; exact ⟨_, rfl, .inr ⟨rfl, .inr ⟨rfl, fun vs z => by cases z⟩⟩⟩
mutual
theorem noL_oc {b : Addr} : ∀ (v : Val) {x : V}, noL v = true → Oc K CA H P v x b → False
  | .tup vs, _, h, o => by
    cases o with
    | tup _ o => exact noL_ocs vs h o
  | .lst vs, _, h, o => by cases h
  | .hid, _, h, o => by cases h
  | .non, _, _, o => nomatch o
  | .bl _, _, _, o => nomatch o
  | .int _, _, _, o => nomatch o
  | .str _, _, _, o => nomatch o
  | .scr _, _, _, o => nomatch o
  | .exc _, _, _, o => nomatch o
  | .fn _, _, _, o => nomatch o
theorem noL_ocs {b : Addr} : ∀ (vs : List Val) {xs : List V}, noLs vs = true → Ocs K CA H P vs xs b → False
  | [], _, _, o => nomatch o
  | v :: vs, _, h, o => by
    have h : (noL v && noLs vs) = true := h
    rw [Bool.and_eq_true] at h
    cases o with
    | head o => exact noL_oc v h.1 o
    | tail o => exact noL_ocs vs h.2 o
end
mutual
theorem hideA_rv {a : Addr} {xs ys : List V} (M : H a = some (.lst xs)) : ∀ (v : Val) {x : V}, RV K CA H P v x → RV K CA (upd H a (.lst ys)) P (hideAV v) x
  | .non, _, r => by cases r; exact .non
  | .bl b, _, r => by cases r; exact .bl b
  | .int i, _, r => by cases r; exact .int i
  | .str z, _, r => by cases r; exact .str z
  | .tup vs, _, r => by
    cases r with
    | @tup b zs _ q t =>
      refine .tup ?_ (hideA_rvs M vs t)
      rcases q with (q | ⟨o, q⟩) | q
      · exact .inl (.inl (by rw [upd_off (fun e => by subst e; rw [M] at q; cases q)]; exact q))
      · exact .inl (.inr ⟨o, by rw [upd_off (fun e => by subst e; rw [M] at q; cases q)]; exact q⟩)
      · exact .inr q
  | .lst vs, _, r => by
    cases r with
    | @lst b zs _ p q t =>
      by_cases e : b = a
      · subst e; exact .hid p upd_at
      · exact .hid p (by rw [upd_off e]; exact q)
  | .fn k, _, r => by
    cases r with
    | fn e => exact .fn e
  | .scr ns, _, r => by
    cases r with
    | scr q =>
      refine .scr ?_
      rcases q with ⟨o, q⟩ | q
      · exact .inl ⟨o, by rw [upd_off (fun e => by subst e; rw [M] at q; cases q)]; exact q⟩
      · exact .inr q
  | .exc c, _, r => by
    cases r with
    | exc c q => exact .exc c (by rw [upd_off (fun e => by subst e; rw [M] at q; unfold ExT at q; cases q)]; exact q)
  | .hid, _, r => by
    cases r with
    | @hid b zs p q =>
      by_cases e : b = a
      · subst e; exact .hid p upd_at
      · exact .hid p (by rw [upd_off e]; exact q)
  | .dct k, _, r => by
    cases r with
    | dct p q k => exact .dct p (dct_upd M q) fun d hd => sqT_upd M (k d hd)
  | .dk ks vs, _, r => by
    cases r with
    | dk p q n t =>
      refine .dk p (dk_upd M q) n ?_
      have := hideA_rvs (ys := ys) M vs t
      rw [hidesA_noL vs n] at this
      exact this
theorem hideA_rvs {a : Addr} {xs ys : List V} (M : H a = some (.lst xs)) : ∀ (vs : List Val) {zs : List V}, RVs K CA H P vs zs → RVs K CA (upd H a (.lst ys)) P (hideAVs vs) zs
  | [], _, r => by cases r; exact .nil
  | v :: vs, _, r => by
    cases r with
    | cons r t => exact .cons (hideA_rv M v r) (hideA_rvs M vs t)
end
theorem ER.hideA (er : ER K CA H0 H P env σ) (E : Ent K CA H0 args) {a : Addr} {xs ys : List V} (M : H a = some (.lst xs)) (pa : P a) (ha : noLs args = true) : ER K CA H0 (upd H a (.lst ys)) P (hideAE env) σ := by
  have hn : H0.h a = none := by
    rcases er.gr.2 a pa with z | z
    · obtain ⟨P0, xs0, h⟩ := E
      exact (noL_ocs args ha (h a z)).elim
    · exact z
  exact {
    ext := fun b o e => by
      rw [upd_off (fun z => by subst z; rw [hn] at e; cases e)]
      exact er.ext b o e
    gr := er.gr
    trk := fun b z => by
      by_cases e : b = a
      · subst e; exact ⟨_, upd_at, .l⟩
      · rw [upd_off e]; exact er.trk b z
    len := by unfold hideAE; rw [List.length_map]; exact er.len
    shr := fun i v h => by
      obtain ⟨w, h1, h2⟩ := hideAE_get h
      rcases h2 with ⟨_, h2⟩ | ⟨z, _⟩
      · obtain ⟨x, g1, g2⟩ := er.shr i w h1
        exact ⟨x, g1, by rw [show v = hideAV w from h2]; exact hideA_rv M w g2⟩
      · cases z
    own := fun i v h => by
      obtain ⟨w, h1, h2⟩ := hideAE_get h
      rcases h2 with ⟨z, _⟩ | ⟨_, h2⟩
      · cases z
      · obtain ⟨b, o, e2, e3, e4, e5, e6⟩ := er.own i w h1
        have ne : b ≠ a := fun z => by subst z; exact e4 pa
        have e3' : upd H a (.lst ys) b = some o := by rw [upd_off ne]; exact e3
        cases e6 with
        | @lst vs zs r =>
          rcases h2 with ⟨vs', e, h2⟩ | ⟨_, h2⟩
          · cases e
            rw [show v = _ from h2]
            exact ⟨b, _, e2, e3', e4, e5, .lst (hideA_rvs M vs r)⟩
          · exact absurd rfl (h2 vs)
        | dct k =>
          rcases h2 with ⟨vs', e, _⟩ | ⟨h2, _⟩
          · cases e
          · rw [show v = _ from h2]
            exact ⟨b, _, e2, e3', e4, e5, .dct fun d hd => sqT_upd M (k d hd)⟩
        | @dk kvs vs n r =>
          rcases h2 with ⟨vs', e, _⟩ | ⟨h2, _⟩
          · cases e
          · rw [show v = _ from h2]
            have r' := hideA_rvs (ys := ys) M vs r
            rw [hidesA_noL vs n] at r'
            exact ⟨b, _, e2, e3', e4, e5, .dk n r'⟩
    dis := fun i j v w b h1 h2 => by
      obtain ⟨v', g1, _⟩ := hideAE_get h1
      obtain ⟨w', g2, _⟩ := hideAE_get h2
      exact er.dis i j v' w' b g1 g2 }
end
section
variable {K : PySem.W.Frag} {CA : Nat → Option Addr} {H H1 H' H2 : Hp} {H0 : Bs} {P P1 P' P2 : Addr → Prop} {σ : L2.St} {W : WX} {env : Env} {D : Ends} {args : List Val}
structure Stb (Z : Hp → (Addr → Prop) → Prop) : Prop where
  pers : ∀ {H P H' P'}, Z H P → PersR H P H' P' → Z H' P'
  upd : ∀ {H P a xs ys}, Z H P → H a = some (.lst xs) → P a → Z (L2.upd H a (.lst ys)) P
theorem Stb.all : Stb fun _ _ => True := ⟨fun _ _ => trivial, fun _ _ _ => trivial⟩
def ResT (K : PySem.W.Frag) (CA : Nat → Option Addr) (H0 : Bs) (Z : Hp → (Addr → Prop) → Prop) (W : WX) (D : Ends) (o : O) : Prop := match o with
  | .nx env' => ∀ σ' H' P', ER K CA H0 H' P' env' σ' → Z H' P' → D.nx σ' H'
  | .brk env' => ∀ σ' H' P', ER K CA H0 H' P' env' σ' → Z H' P' → D.bk σ' H'
  | .cnt env' => ∀ σ' H' P', ER K CA H0 H' P' env' σ' → Z H' P' → D.ct σ' H'
  | .ret v fr => Out K CA H0.h H0.p (v, fr) D.rt
  | .rtn vs => OutN K CA H0.h (.tup vs, false) D.rt
  | .exc c env' => ∀ σ' H' P' C, ER K CA H0 H' P' env' σ' → CA c = some C → W (.ref C) none σ' H'
  | .bad => False
theorem ResT.toS {Z : Hp → (Addr → Prop) → Prop} (hZ : Stb Z) {o : O} (z : Z H P) (h : ResT K CA H0 Z W D o) : ResS K CA H0 H P W D o := by
  cases o with
  | nx env' => exact fun σ' H' P' r er => h σ' H' P' er (hZ.pers z r)
  | brk env' => exact fun σ' H' P' r er => h σ' H' P' er (hZ.pers z r)
  | cnt env' => exact fun σ' H' P' r er => h σ' H' P' er (hZ.pers z r)
  | ret v fr => exact h
  | rtn vs => exact h
  | exc c env' => exact fun σ' H' P' C _ er => h σ' H' P' C er
  | bad => exact h
theorem rO_resT {Z : Hp → (Addr → Prop) → Prop} {α : Type} {r : G.R α} {f : α → O} {env' : Env} (er : ER K CA H0 H P' env' σ) (h : ResT K CA H0 Z W D (rO env' r f)) : ResG CA H σ W (fun a => ResT K CA H0 Z W D (f a)) r := by
  cases r with
  | ok a => exact h
  | exc c => exact fun H' C s e => h σ H' P' C (er.stay s) e
  | bad => exact h
end
def tT1 (K : PySem.W.Frag) (CA : Nat → Option Addr) (cl : Nat → List Val → G.R (Val × Bool)) (H0 : Bs) (Z : Hp → (Addr → Prop) → Prop) (W : WX) (args : List Val) (s : S) : TS := fun D σ H => ∃ env P, ER K CA H0 H P env σ ∧ Z H P ∧ ResT K CA H0 Z W D (evT1 cl args s env)
def tTs (K : PySem.W.Frag) (CA : Nat → Option Addr) (cl : Nat → List Val → G.R (Val × Bool)) (H0 : Bs) (Z : Hp → (Addr → Prop) → Prop) (W : WX) (args : List Val) (ss : List S) : TS := fun D σ H => ∃ env P, ER K CA H0 H P env σ ∧ Z H P ∧ ResT K CA H0 Z W D (evTs cl args ss env)
def T3 (CA : Nat → Option Addr) (cl : Nat → List Val → G.R (Val × Bool)) (H0 : Bs) (args : List Val) (X : Cx) (src : Stmt) (s : S) : Prop := ∀ Z, Stb Z → ∀ W, Takes X W → PS X src (tT1 X.K CA cl H0 Z W args s)
def Ts3 (CA : Nat → Option Addr) (cl : Nat → List Val → G.R (Val × Bool)) (H0 : Bs) (args : List Val) (X : Cx) (srcs : List Stmt) (ss : List S) : Prop := ∀ Z, Stb Z → ∀ W, Takes X W → PSs X srcs (tTs X.K CA cl H0 Z W args ss)
section
variable {X : Cx} {CA : Nat → Option Addr} {cl : Nat → List Val → G.R (Val × Bool)} {H0 : Bs} {src a b c o : Expr} {e ea eb ec eo : E} {pos : Pos} {args : List Val}
theorem T3.of {st : Stmt} {s : S} (h : S3 CA cl H0 X st s) (e : ∀ env, evT1 cl args s env = evS cl s env) : T3 CA cl H0 args X st s := fun Z hZ W tk => (h W tk).imp fun D σ H q => by
  obtain ⟨env, P, er, z, q⟩ := q
  rw [e] at q
  exact ⟨env, P, er, q.toS hZ z⟩
theorem ts_nil : Ts3 CA cl H0 args X [] [] := fun Z hZ W tk => pss_nil.imp fun D σ H q => by
  obtain ⟨env, P, er, z, q⟩ := q
  exact q σ H P er z
theorem ts_cons {s1 : Stmt} {ss : List Stmt} {t : S} {ts : List S} (h1 : T3 CA cl H0 args X s1 t) (h2 : Ts3 CA cl H0 args X ss ts) : Ts3 CA cl H0 args X (s1 :: ss) (t :: ts) := fun Z hZ W tk => (pss_cons (h1 Z hZ W tk) (h2 Z hZ W tk)).imp fun D σ H q => by
  obtain ⟨env, P, er, z, q⟩ := q
  refine ⟨env, P, er, z, ?_⟩
  have q : ResT X.K CA H0 Z W D (match evT1 cl args t env with | .nx env' => evTs cl args ts env' | o => o) := q
  cases e1 : evT1 cl args t env with
  | nx env' =>
    rw [e1] at q
    exact fun σ' H' P' er' z' => ⟨env', P', er', z', q⟩
  | brk env' => rw [e1] at q; exact q
  | cnt env' => rw [e1] at q; exact q
  | ret v fr => rw [e1] at q; exact q
  | rtn vs => rw [e1] at q; exact q
  | exc c env' => rw [e1] at q; exact q
  | bad => rw [e1] at q; exact q
theorem t_if {s1 s2 : List Stmt} {t1 t2 : List S} (hc : V3 CA cl H0 X c ec) (h1 : Ts3 CA cl H0 args X s1 t1) (h2 : Ts3 CA cl H0 args X s2 t2) : T3 CA cl H0 args X (.If c s1 s2 pos) (.ifs ec t1 t2) := fun Z hZ W tk => (ps_if (hc.tst W tk) (h1 Z hZ W tk) (h2 Z hZ W tk)).imp fun D σ H q => by
  obtain ⟨env, P, er, z, q⟩ := q
  obtain ⟨P1, g1, er1⟩ := er.frz (kept ec)
  refine ⟨_, P1, er1, (rO_resT er1 q).imp fun k q H' P' st => ?_⟩
  cases k with
  | true => exact ⟨_, P', er1.grow st, hZ.pers (hZ.pers z ⟨.refl, g1⟩) st.persR, q⟩
  | false => exact ⟨_, P', er1.grow st, hZ.pers (hZ.pers z ⟨.refl, g1⟩) st.persR, q⟩
theorem mt_fun2 {id : String} {r : V → List V → Hp → VK → Prop} (h : MtM X id r) : MtM X id (fun x vs H Q => Fun2 X.K H → r x vs H Q) :=
  fun pins s σ H x xs v us Q I rx rv q => h pins s σ H x xs v us Q I rx rv (q (inv_fun2 I))
theorem mt_fun2R {id : String} {r : V → List V → Hp → VK → Prop} (h : MtR X id r) : MtR X id (fun x vs H Q => Fun2 X.K H → r x vs H Q) :=
  fun pins s σ H x xs v us Q I rx rv q => h pins s σ H x xs v us Q I rx rv (q (inv_fun2 I))
theorem frzL_res {Z : Hp → (Addr → Prop) → Prop} {W : WX} {D : Ends} {env : Env} {P : Addr → Prop} {H : Hp} {σ : L2.St} {f : List Val → O} (er : ER X.K CA H0 H P env σ) {Q : VK} (q : ResT X.K CA H0 Z W D (rO env (frzL cl eo env) f)) (h : ∀ vs, ResT X.K CA H0 Z W D (f vs) → ∀ H' P' ad xs, Step P H P' H' → P' ad → H' ad = some (.lst xs) → RVs X.K CA H' P' vs xs → Q (.ref ad) H') : ResG CA H σ W (fun p => Out X.K CA H P p Q) (evE cl eo env) := by
  unfold frzL at q
  cases e : evE cl eo env with
  | ok p =>
    rw [e] at q
    obtain ⟨v, fl⟩ := p
    cases v <;> cases fl <;> first | exact False.elim q | skip
    rename_i vs
    intro H' P' x st r
    rcases r with ⟨_, r⟩ | ⟨z, _⟩
    · cases r with
      | lst p s t => exact h vs q H' P' _ _ st p s t
    · cases z
  | exc c => rw [e] at q; exact fun H' C s hc => q σ H' P C (er.stay s) hc
  | bad => rw [e] at q; exact False.elim q
theorem hid_res {W : WX} {env : Env} {P : Addr → Prop} {H : Hp} {σ : L2.St} (er : ER X.K CA H0 H P env σ) {Q : VK} (h : isHid cl eo env = true) (k : ∀ H' P' ad xs, Step P H P' H' → P' ad → H' ad = some (.lst xs) → Q (.ref ad) H') : ResG CA H σ W (fun p => Out X.K CA H P p Q) (evE cl eo env) := by
  unfold isHid at h
  cases e : evE cl eo env with
  | ok p =>
    rw [e] at h
    obtain ⟨v, fl⟩ := p
    cases v <;> cases fl <;> first | (cases h; done) | skip
    intro H' P' x st r
    rcases r with ⟨_, r⟩ | ⟨z, _⟩
    · cases r with
      | hid p s => exact k H' P' _ _ st p s
    · cases z
  | exc c => rw [e] at h; cases h
  | bad => rw [e] at h; cases h
theorem m_app {pa pc : Pos} (E : Ent X.K CA H0 args) (hbase : attributeBase o "append" X.env (eval o X.env) = eval o X.env) (hline : (pa.endLine == pc.line) = true) (hs : okSrc a = true) (ho : V3 CA cl H0 X o eo) (ha : V3 CA cl H0 X a ea) {Z : Hp → (Addr → Prop) → Prop} (hZ : Stb Z) {W : WX} (tk : Takes X W) :
    PS X (.Expr (.Call (.Attribute o "append" pa) [a] [] pc) pos) (fun D σ H => ∃ env P, ER X.K CA H0 H P env σ ∧ Z H P ∧ ResT X.K CA H0 Z W D (mutO cl args eo (.app ea) env)) :=
  (ps_expr (pe_bm PySem.F.plainAttrs_list PySem.F.slot_list_append PySem.F.type_list_append (mt_fun2 mt_append) (ho.val W tk) (pa_cons (ha.val W tk) pa_nil (okSrc.st hs _ _)) hbase (by rw [okSrc.st hs]; rfl) hline (okSrc.st hs _ _) rfl)).imp fun D σ H q => by
    obtain ⟨env, P, er, z, q⟩ := q
    obtain ⟨P1, g1, er1⟩ := er.frz (kept ea)
    have q : ResT X.K CA H0 Z W D (rO (frzE env ea) (frzL cl eo (frzE env ea)) fun vm => rO (frzE env ea) (evE cl ea (frzE env ea)) fun _ => if lenOk (vm.length + 1) && apartVs vm args then .nx (hideE vm (frzE env ea)) else .bad) := q
    refine ⟨_, P1, er1, frzL_res er1 q fun vm q H2 P2 ad xs st pad hH hr => ?_⟩
    have er2 := er1.grow st
    refine ⟨.inl ⟨rfl, xs, SqL.of hH⟩, _, P2, er2, (rO_resT er2 q).imp fun p q H3 P3 y st3 r3 => ?_⟩
    obtain ⟨P4, st4, g4, r4⟩ := r3.rv st3
    intro F
    have er4 := er2.grow st4
    have z4 := hZ.pers (hZ.pers (hZ.pers z ⟨.refl, g1⟩) st.persR) st4.persR
    cases hl : lenOk (vm.length + 1) with
    | false => rw [hl] at q; exact q.elim
    | true =>
      cases hp : apartVs vm args with
      | false => rw [hl, hp] at q; exact q.elim
      | true =>
        rw [hl, hp] at q
        have h4 := st4.s _ _ hH
        have hr4 := hr.mono st4.s st4.g.1
        refine ⟨ad, xs, y, rfl, rfl, h4, ?_, q _ _ P4 (er4.hide E ⟨h4, hr4, F⟩ (st4.g.1 _ pad) hp) (hZ.upd z4 h4 (st4.g.1 _ pad))⟩
        rw [← hr.length]
        exact LIM_lt hl
theorem m_clr {pa pc : Pos} (E : Ent X.K CA H0 args) (hbase : attributeBase o "clear" X.env (eval o X.env) = eval o X.env) (hline : (pa.endLine == pc.line) = true) (ho : V3 CA cl H0 X o eo) : T3 CA cl H0 args X (.Expr (.Call (.Attribute o "clear" pa) [] [] pc) pos) (.mut eo .clr) := fun Z hZ W tk =>
  (ps_expr (pe_bm0 PySem.F.plainAttrs_list PySem.F.slot_list_clear PySem.F.type_list_clear (mt_fun2R mt_clear) (ho.val W tk) hbase hline)).imp fun D σ H q => by
    obtain ⟨env, P, er, z, q⟩ := q
    have q : ResT X.K CA H0 Z W D (if (isHid cl eo env && noLs args) = true then .nx (hideAE env) else rO env (frzL cl eo env) fun vm => if apartVs vm args then .nx (hideE vm env) else .bad) := q
    by_cases hh : (isHid cl eo env && noLs args) = true
    · rw [if_pos hh] at q
      rw [Bool.and_eq_true] at hh
      refine ⟨_, P, er, hid_res er hh.1 fun H2 P2 ad xs st pad hH => ?_⟩
      have er2 := er.grow st
      refine ⟨.inl ⟨rfl, xs, SqL.of hH⟩, fun F => ?_⟩
      exact ⟨ad, xs, rfl, rfl, hH, q _ _ P2 (er2.hideA E hH pad hh.2) (hZ.upd (hZ.pers z st.persR) hH pad)⟩
    rw [if_neg hh] at q
    refine ⟨_, P, er, frzL_res er q fun vm q H2 P2 ad xs st pad hH hr => ?_⟩
    have er2 := er.grow st
    refine ⟨.inl  ⟨rfl, xs, SqL.of hH⟩, fun F => ?_⟩
    cases hp : apartVs vm args with
    | false => rw [hp] at q; exact q.elim
    | true =>
      rw [hp] at q
      exact ⟨ad, xs, rfl, rfl, hH, q _ _ P2 (er2.hide E ⟨hH, hr, F⟩ pad hp) (hZ.upd (hZ.pers z st.persR) hH pad)⟩
theorem m_rev {pa pc : Pos} (E : Ent X.K CA H0 args) (hbase : attributeBase o "reverse" X.env (eval o X.env) = eval o X.env) (hline : (pa.endLine == pc.line) = true) (ho : V3 CA cl H0 X o eo) : T3 CA cl H0 args X (.Expr (.Call (.Attribute o "reverse" pa) [] [] pc) pos) (.mut eo .rev) := fun Z hZ W tk =>
  (ps_expr (pe_bm0 PySem.F.plainAttrs_list PySem.F.slot_list_reverse PySem.F.type_list_reverse (mt_fun2R mt_reverse) (ho.val W tk) hbase hline)).imp fun D σ H q => by
    obtain ⟨env, P, er, z, q⟩ := q
    have q : ResT X.K CA H0 Z W D (if (isHid cl eo env && noLs args) = true then .nx (hideAE env) else rO env (frzL cl eo env) fun vm => if apartVs vm args then .nx (hideE vm env) else .bad) := q
    by_cases hh : (isHid cl eo env && noLs args) = true
    · rw [if_pos hh] at q
      rw [Bool.and_eq_true] at hh
      refine ⟨_, P, er, hid_res er hh.1 fun H2 P2 ad xs st pad hH => ?_⟩
      have er2 := er.grow st
      refine ⟨.inl ⟨rfl, xs, SqL.of hH⟩, fun F => ?_⟩
      exact ⟨ad, xs, rfl, rfl, hH, q _ _ P2 (er2.hideA E hH pad hh.2) (hZ.upd (hZ.pers z st.persR) hH pad)⟩
    rw [if_neg hh] at q
    refine ⟨_, P, er, frzL_res er q fun vm q H2 P2 ad xs st pad hH hr => ?_⟩
    have er2 := er.grow st
    refine ⟨.inl  ⟨rfl, xs, SqL.of hH⟩, fun F => ?_⟩
    cases hp : apartVs vm args with
    | false => rw [hp] at q; exact q.elim
    | true =>
      rw [hp] at q
      exact ⟨ad, xs, rfl, rfl, hH, q _ _ P2 (er2.hide E ⟨hH, hr, F⟩ pad hp) (hZ.upd (hZ.pers z st.persR) hH pad)⟩
theorem set_rvs {K : PySem.W.Frag} {H : Hp} {P : Addr → Prop} {v : Val} {x : V} (rv : RV K CA H P v x) : ∀ (vs : List Val) {xs : List V} (j : Nat), RVs K CA H P vs xs → xs[j]? = some x → RVs K CA H P (vs.set j v) xs
  | [], _, j, r, h => by cases r; exact .nil
  | w :: vs, _, 0, r, h => by
    cases r with
    | cons a b =>
      cases h
      exact .cons rv b
  | w :: vs, _, j + 1, r, h => by
    cases r with
    | cons a b => exact .cons a (set_rvs rv vs j b h)
theorem setI_rvs {K : PySem.W.Frag} {H : Hp} {P : Addr → Prop} {vs : List Val} {xs : List V} {k : Int} {v : Val} {x : V} (r : RVs K CA H P vs xs) (hx : atI xs k = some x) (rv : RV K CA H P v x) : RVs K CA H P (setI vs k v) xs := by
  unfold setI
  unfold atI at hx
  rw [r.length]
  cases e : ixN xs.length k with
  | none => exact r
  | some j =>
    rw [e] at hx
    exact set_rvs rv vs j r hx
theorem app_rvs {K : PySem.W.Frag} {H : Hp} {P : Addr → Prop} : ∀ (vs : List Val) {ws : List Val} {xs ys : List V}, RVs K CA H P vs xs → RVs K CA H P ws ys → RVs K CA H P (vs ++ ws) (xs ++ ys)
  | [], _, _, _, r, s => by cases r; exact s
  | v :: vs, _, _, _, r, s => by
    cases r with
    | cons a b => exact .cons a (app_rvs vs b s)
theorem rvs_rev {K : PySem.W.Frag} {H : Hp} {P : Addr → Prop} : ∀ (vs : List Val) {xs : List V}, RVs K CA H P vs xs → RVs K CA H P vs.reverse xs.reverse
  | [], _, r => by cases r; exact .nil
  | v :: vs, _, r => by
    cases r with
    | cons a b =>
      rw [List.reverse_cons, List.reverse_cons]
      exact app_rvs _ (rvs_rev vs b) (.cons a .nil)
theorem m_revp {i : Nat} {k : Int} {kk : Nat} {x : Str} {px p2 p3 pa pc : Pos} (E : Ent X.K CA H0 args) (hline : (pa.endLine == pc.line) = true) (hN : X.N[i]? = some x) (hv : Vis X.env.scope x) (hd : (x == ("__debug__" : Str)) = false) (hcd : (x == ("__classdict__" : Str)) = false) : T3 CA cl H0 args X (.Expr (.Call (.Attribute (.Subscript (.Name x px) (.Constant (.int k) kk p2) p3) "reverse" pa) [] [] pc) pos) (.mut (.ix (.bor i) (.cst (.int k))) .revp) := fun Z hZ W tk =>
  (ps_expr (pe_bm0 PySem.F.plainAttrs_list PySem.F.slot_list_reverse PySem.F.type_list_reverse (mt_fun2R mt_reverse) (pe_ix ix_tup (pe_var hN hv hd hcd) pe_int (okSrc.pi rfl)) rfl hline)).imp fun D σ H q => by
    obtain ⟨env, P, er, z, q⟩ := q
    have q : ResT X.K CA H0 Z W D (match env[i]? with
      | some (some (.tup vs, false)) => (match L2.atI vs k with
        | some (.lst vm) => if apartVs vm args then .nx (put (hideE vm env) i (.tup (setI (hideVs vm vs) k (.lst (hideVs vm vm).reverse))) false) else .bad
        | _ => .bad)
      | _ => .bad) := q
    split at q
    · rename_i vs he
      split at q
      · rename_i vm hk
        cases hp : apartVs vm args with
        | false => rw [hp] at q; exact q.elim
        | true =>
          rw [hp] at q
          have q : ResT X.K CA H0 Z W D (.nx (put (hideE vm env) i (.tup (setI (hideVs vm vs) k (.lst (hideVs vm vm).reverse))) false)) := q
          obtain ⟨y, h1, h2⟩ := er.shr i _ he
          cases h2 with
          | @tup a zs _ hs hr =>
            obtain ⟨z, hz, rz⟩ := atI_rv hr hk
            cases rz with
            | @lst ad xs _ pad hH hm =>
              refine ⟨_, h1, a, zs, k, _, rfl, rfl, hs, hz, .inl ⟨rfl, xs, SqL.of hH⟩, fun F => ⟨ad, xs, rfl, rfl, hH, ?_⟩⟩
              have M : Ma X.K CA H P ad vm xs := ⟨hH, hm, F⟩
              have er2 := er.hide (ys := xs.reverse) E M pad hp
              have hr2 := hide_rvs (ys := xs.reverse) M vs hr
              have hm2 := hide_rvs (ys := xs.reverse) M vm hm
              have rt : RV X.K CA (upd H ad (.lst xs.reverse)) P (.tup (setI (hideVs vm vs) k (.lst (hideVs vm vm).reverse))) (.ref a) := by
                refine .tup ?_ (setI_rvs hr2 hz (.lst pad upd_at (rvs_rev _ hm2)))
                rcases hs with (g | ⟨o, g⟩) | g
                · exact .inl (.inl (by rw [upd_off (fun e => by subst e; rw [hH] at g; cases g)]; exact g))
                · exact .inl (.inr ⟨o, by rw [upd_off (fun e => by subst e; rw [hH] at g; cases g)]; exact g⟩)
                · exact .inr g
              have er3 := er2.putR (i := i) (p := (.tup (setI (hideVs vm vs) k (.lst (hideVs vm vm).reverse)), false)) ⟨fun _ _ h => h, .refl, fun b z => er2.trk b z⟩ (.inl ⟨rfl, rt⟩)
              have es : σ.set i (some (.ref a)) = σ := by
                refine List.ext_getElem? fun j => ?_
                rw [List.getElem?_set]
                split
                · rename_i e; subst e
                  split
                  · exact h1.symm
                  · rename_i hl; rw [List.getElem?_eq_none (by omega)] at h1; cases h1
                · rfl
              rw [es] at er3
              exact q _ _ P er3 (hZ.upd z hH pad)
      · exact q.elim
    · exact q.elim
theorem m_pop {pa pc : Pos} (E : Ent X.K CA H0 args) (hbase : attributeBase o "pop" X.env (eval o X.env) = eval o X.env) (hline : (pa.endLine == pc.line) = true) (ho : V3 CA cl H0 X o eo) : T3 CA cl H0 args X (.Expr (.Call (.Attribute o "pop" pa) [] [] pc) pos) (.mut eo .pop) := fun Z hZ W tk =>
  (ps_expr (pe_bm0 PySem.F.plainAttrs_list PySem.F.slot_list_pop PySem.F.type_list_pop (mt_fun2R mt_pop) (ho.val W tk) hbase hline)).imp fun D σ H q => by
    obtain ⟨env, P, er, z, q⟩ := q
    have q : ResT X.K CA H0 Z W D (rO env (frzL cl eo env) fun vm => if !vm.isEmpty && apartVs vm args then .nx (hideE vm env) else .bad) := q
    refine ⟨_, P, er, frzL_res er q fun vm q H2 P2 ad xs st pad hH hr => ?_⟩
    have er2 := er.grow st
    refine ⟨.inl ⟨rfl, xs, SqL.of hH⟩, fun F => ?_⟩
    cases hp : apartVs vm args with
    | false => rw [hp, Bool.and_false] at q; exact q.elim
    | true =>
      cases hv : vm with
      | nil => rw [hv] at q; exact q.elim
      | cons v0 vs0 =>
        rw [hp, hv] at q
        have hx : xs.isEmpty = false := by
          rw [hv] at hr
          cases hr; rfl
        obtain ⟨y, hy, _⟩ := last_get hx
        exact ⟨ad, xs, y, rfl, rfl, hH, hy, q _ _ P2 (er2.hide E ⟨hH, hv ▸ hr, F⟩ pad (hv ▸ hp)) (hZ.upd (hZ.pers z st.persR) hH pad)⟩
end
end G

set_option linter.all false
set_option maxHeartbeats 2000000
set_option maxRecDepth 100000
namespace G
open PySem PySem.Spec PyProof.Rows HT
open L2 hiding Takes XE CX takes_of passes_call ps_raise PMk MkP mk_of pmk_own passAt ps_try_as ps_try_many HdsOk
open L2N (Takes XE CX takes_of passes_call ps_raise PMk MkP mk_of pmk_own passAt)
def rSetD (K : PySem.W.Frag) : V → V → V → Hp → (Hp → Prop) → Prop := fun o i v H Q => ∃ (a b : Addr) (ds : DL) (k : List Int) (fv : FV), o = .ref a ∧ i = .ref b ∧ v = fv.v ∧ H a = some (DctO ds a) ∧ DK K H ds ∧ SqT K H b (k.map V.int) ∧ ds.length < sizeLine ∧
  Q (upd H a (DctO (dpt ds k b fv) a))
theorem set_dct {X : Cx} (hu : X.A.units + 64 < cLine) : PSet X (rSetD X.K) := by
  intro pins s σ H o i v ov iv u Q I ro ri rv h
  obtain ⟨a, b, ds, k, fv, rfl, rfl, rfl, h1, h2, h3, h4, q⟩ := h
  cases ro
  cases ri
  exact dd_set (by omega) I h1 h2 h3 rv h4 fun s' I' => ⟨_, I', q⟩
theorem dvl_dpt (ds : DL) (k : List Int) (b : Addr) (v : FV) : dvl (dpt ds k b v) = dput (dvl ds) k v := by
  unfold dpt dput
  rw [dhas_dvl]
  by_cases h : (dfnd ds k).isSome = true
  · rw [if_pos h, if_pos h]
    unfold dvl
    rw [List.map_map, List.map_map]
    refine List.map_congr_left fun d _ => ?_
    simp only [Function.comp_apply]
    split <;> rfl
  · rw [if_neg h, if_neg h]
    unfold dvl
    rw [List.map_append]; rfl
theorem DK.put {K : PySem.W.Frag} {H : Hp} {ds : DL} {k : List Int} {b : Addr} {v : FV} (h : DK K H ds) (q : SqT K H b (k.map V.int)) : DK K H (dpt ds k b v) := fun d hd => by
  unfold dpt at hd
  split at hd
  · obtain ⟨d0, h0, rfl⟩ := List.mem_map.mp hd
    have := h d0 h0
    split <;> exact this
  · rcases List.mem_append.mp hd with hd | hd
    · exact h d hd
    · rw [List.mem_singleton.mp hd]; exact q
theorem fv_rv {K : PySem.W.Frag} {CA : Nat → Option Addr} {H : Hp} {P : Addr → Prop} {v : Val} {x : V} {fv : FV} (h : FV.of v = some fv) (r : RV K CA H P v x) : x = fv.v := by
  cases v <;> cases h <;> (cases r; rfl)
theorem key_rv {K : PySem.W.Frag} {CA : Nat → Option Addr} {H : Hp} {P L : Addr → Prop} {v : Val} {x : V} {ks : List Int} (h : keyOf v = some ks) (r : RVo K CA H P L v x) : ∃ b, x = .ref b ∧ SqT K H b (ks.map V.int) := by
  cases v <;> first | (cases h; done) | skip
  rename_i vs
  obtain ⟨b, xs, rfl, sb, qb⟩ := r.tup
  have := intsL_rv (show intsL vs = some ks from h) qb
  subst this
  exact ⟨b, rfl, sb⟩
section
variable {K : PySem.W.Frag} {CA : Nat → Option Addr} {H : Hp} {H0 : Bs} {P : Addr → Prop} {σ : L2.St} {env : Env}
theorem ownD_ok {i : Nat} {kvs : List (List Int × FV)} (er : ER K CA H0 H P env σ) (h : ownD env i = .ok kvs) : ∃ a ds, OwnAt env σ i a ∧ σ[i]? = some (some (.ref a)) ∧ H a = some (DctO ds a) ∧ kvs = dvl ds ∧ DK K H ds := by
  unfold ownD at h
  split at h
  · rename_i ws he
    cases h
    obtain ⟨a, o, e2, e3, e4, e5, e6⟩ := er.own i _ he
    cases e6 with
    | dct k => exact ⟨a, _, ⟨⟨_, he⟩, e2⟩, e2, e3, rfl, k⟩
  · cases h
theorem ownD_ne {i : Nat} (c : Nat) : ownD env i ≠ .exc c := by
  intro h
  unfold ownD at h
  split at h <;> cases h
end
section
variable {X : Cx} {CA : Nat → Option Addr} {cl : Nat → List Val → G.R (Val × Bool)} {H0 : Bs} {src a b c : Expr} {e ea eb ec : E} {pos : Pos}
theorem s_dnew {i : Nat} {x : Str} {p pd : Pos} (hN : X.N.Nodup) (hi : X.N[i]? = some x) (hl : Loc X.env.scope x) (hf : X.fn x = true ∨ X.env.scope.names.lookup x = some .local) : S3 CA cl H0 X (.Assign [.Name x p] (.Dict [] [] pd) pos) (.dnew i) :=
  fun W tk => (ps_set hN hi hl pe_dct rfl hf).imp fun D σ H q => by
    obtain ⟨env, P, er, q⟩ := q
    intro p hp
    have sa : Same H (upd H p (DctO [] p)) := same_new hp
    have er2 : ER X.K CA H0 (upd H p (DctO [] p)) P env σ := er.stay sa
    refine q (σ.set i (some (.ref p))) _ P ⟨.of_same sa, fun _ z => z⟩ (er2.putOwnO upd_same (er.trk.no hp) (er.ext.free hp) (.dct (ds := []) fun d hd => by cases hd) fun j b _ o => ?_)
    obtain ⟨_, _, _, _, g, _⟩ := o.at er
    exact ne_of_none g hp
theorem s_dput (hu : X.A.units + 64 < cLine) {i : Nat} {x : Str} {px pa : Pos} (hN : X.N[i]? = some x) (hv : Vis X.env.scope x) (hd : (x == ("__debug__" : Str)) = false) (hcd : (x == ("__classdict__" : Str)) = false)
    (hsl : ∀ v, assign (.Subscript (.Name x px) b pa) X.env v = (do
      let ov ← holding [v] (eval (.Name x px) X.env)
      let iv ← holding [v, ov] (eval b X.env)
      standAt pa
      holding [v, ov, iv] (setItem ov iv v)
      release [v, ov, iv] [])) (hs : noComp a = true) (ha : V3 CA cl H0 X a ea) (hb : V3 CA cl H0 X b eb) :
    S3 CA cl H0 X (.Assign [.Subscript (.Name x px) b pa] a pos) (.dput i eb ea) := fun W tk =>
  (ps_asg (ha.val W tk) (pg_sub (pe_var hN hv hd hcd) (hb.opd W tk) (set_dct hu) hsl) (show swapsWithSole [.Subscript (.Name x px) b pa] a pos.line X.env = pure false from noComp.sw hs (some (.Subscript (.Name x px) b pa)) pos.line X.env) rfl rfl).imp fun D σ H q => by
    obtain ⟨env, P, er, q⟩ := q
    obtain ⟨P1, g1, er1⟩ := er.frz (kept ea)
    refine ⟨_, P1, er1, (rO_res er1 g1 q).imp fun p q H' P' y st r => ?_⟩
    obtain ⟨P3, st3, g3, r3⟩ := r.rv st
    have er3 := er1.grow st3
    have q := rO_res er3 (fun _ z => z) (q.at st3.persR)
    cases e1 : ownD (frzE env ea) i with
    | exc z => exact absurd e1 (ownD_ne _)
    | bad => rw [e1] at q; exact q.elim
    | ok kvs =>
      rw [e1] at q
      obtain ⟨ad, ds, o, hσ, hH, rfl, hk⟩ := ownD_ok er3 e1
      refine ⟨.ref ad, hσ, _, P3, er3, (rO_res er3 (fun _ z => z) q).imp fun kv q H4 P4 z st4 r4 => ?_⟩
      have q : ResS X.K CA H0 H' P3 W D (match keyOf kv, FV.of p.1 with
        | some ks, some v => if lenOk ((dvl ds).length + 1) then O.nx (put (frzE env ea) i (.dct (dput (dvl ds) ks v)) true) else .bad
        | _, _ => .bad) := q
      cases ek : keyOf kv with
      | none => rw [ek] at q; exact q.elim
      | some ks =>
        cases ev : FV.of p.1 with
        | none => rw [ek, ev] at q; exact q.elim
        | some fv =>
          rw [ek, ev] at q
          dsimp only at q
          split at q
          · rename_i hl
            have er4 := er3.grow st4
            have q := q.at st4.persR
            obtain ⟨bk, rfl, sk⟩ := key_rv ek r4
            have hk4 := hk.same st4.s
            have hf := fv_rv ev (r3.mono st4.s st4.g.1)
            have hlen : ds.length < sizeLine := by
              have : (dvl ds).length = ds.length := by unfold dvl; rw [List.length_map]
              rw [this] at hl
              exact LIM_lt hl
            have ow : OwnO X.K CA H4 P4 ad (.dct (dput (dvl ds) ks fv)) (DctO (dpt ds ks bk fv) ad) := by
              rw [← dvl_dpt ds ks bk fv]
              exact .dct (hk4.put sk)
            obtain ⟨er5, pr⟩ := er4.wrtO o ow
            exact ⟨ad, bk, ds, ks, fv, rfl, rfl, hf, st4.s _ _ hH, hk4, sk, hlen, q _ _ P4 pr er5⟩
          · exact q.elim
theorem dkR_rv {K : PySem.W.Frag} {CA : Nat → Option Addr} {H : Hp} {P : Addr → Prop} {k : Key} {v : Val} {x : V} (rv : RV K CA H P v x) : ∀ {kvs : List (Key × V)} {vs : List Val}, RVs K CA H P vs (kvs.map (·.2)) → RVs K CA H P (dkR (kvs.map fun kv => kG kv.1) vs (kG k) v) ((kvs.map fun kv => if kv.1 = k then (kv.1, x) else kv).map (·.2))
  | [], vs, r => by cases r; exact .nil
  | kv :: kvs, vs, r => by
    rw [List.map_cons] at r
    cases r with
    | cons r t =>
      have ih := dkR_rv (k := k) rv t
      rw [List.map_cons, List.map_cons, List.map_cons]
      unfold dkR
      rw [keqV_kG]
      refine .cons ?_ ih
      by_cases h : kv.1 = k
      · rw [decide_eq_true h, if_pos rfl, if_pos h]; exact rv
      · rw [decide_eq_false h, if_neg (by decide), if_neg h]; exact r
theorem dkR_noL {k v : Val} (nv : noL v = true) : ∀ (ks vs : List Val), noLs vs = true → noLs (dkR ks vs k v) = true
  | [], vs, _ => by cases vs <;> rfl
  | k' :: ks, [], _ => rfl
  | k' :: ks, v' :: vs, h => by
    have h : (noL v' && noLs vs) = true := h
    rw [Bool.and_eq_true] at h
    show (noL (if keqV k' k then v else v') && noLs (dkR ks vs k v)) = true
    rw [dkR_noL nv ks vs h.2, Bool.and_true]
    split
    · exact nv
    · exact h.1
theorem noLs_app : ∀ {a b : List Val}, noLs a = true → noLs b = true → noLs (a ++ b) = true
  | [], _, _, h => h
  | x :: a, b, h, k => by
    have h : (noL x && noLs a) = true := h
    rw [Bool.and_eq_true] at h
    show (noL x && noLs (a ++ b)) = true
    rw [h.1, noLs_app h.2 k]; rfl
theorem dkP_rv {K : PySem.W.Frag} {CA : Nat → Option Addr} {H : Hp} {P : Addr → Prop} {k : Key} {v : Val} {x : V} {a : Addr} {kvs : List (Key × V)} {vs : List Val} (rv : RV K CA H P v x) (nl : noL v = true) (n : noLs vs = true) (r : RVs K CA H P vs (kvs.map (·.2))) :
    OwnO K CA H P a (.dk (dkP (kvs.map fun kv => kG kv.1) vs (kG k) v).1 (dkP (kvs.map fun kv => kG kv.1) vs (kG k) v).2) (.dK (putK kvs k x)) := by
  have e := dkF_val (k := k) r
  have es : (dkF (kvs.map fun kv => kG kv.1) vs (kG k)).isSome = (valV kvs k).isSome := by
    cases e2 : dkF (kvs.map fun kv => kG kv.1) vs (kG k) with
    | none => rw [e2] at e; rw [e]; rfl
    | some w =>
      rw [e2] at e
      obtain ⟨x, e3, _⟩ := e
      rw [e3]; rfl
  unfold dkP
  rw [es]
  cases hv : (valV kvs k).isSome with
  | true =>
    rw [if_pos rfl]
    have ep : putK kvs k x = kvs.map fun kv => if kv.1 = k then (kv.1, x) else kv := by
      unfold putK
      rw [valV_any, hv, if_pos rfl]
    rw [ep]
    have ek : (kvs.map fun kv => kG kv.1) = (kvs.map fun kv => if kv.1 = k then (kv.1, x) else kv).map fun kv => kG kv.1 := by
      rw [List.map_map]
      refine List.map_congr_left fun kv _ => ?_
      show kG kv.1 = kG (if kv.1 = k then (kv.1, x) else kv).1
      split <;> rfl
    have ow := OwnO.dk (a := a) (dkR_noL (k := kG k) nl (kvs.map fun kv => kG kv.1) vs n) (dkR_rv (k := k) rv r)
    rw [← ek] at ow
    exact ow
  | false =>
    rw [if_neg (by decide)]
    have hn : valV kvs k = none := by
      cases h : valV kvs k with
      | none => rfl
      | some w => rw [h] at hv; cases hv
    rw [putK_new x hn]
    have ek : (kvs.map fun kv => kG kv.1) ++ [kG k] = (kvs ++ [(k, x)]).map fun kv => kG kv.1 := by rw [List.map_append]; rfl
    dsimp only
    rw [ek]
    refine .dk (noLs_app n (by show (noL v && true) = true; rw [nl]; rfl)) ?_
    rw [List.map_append]
    exact RVs.append r (.cons rv .nil)
section
variable {K : PySem.W.Frag} {CA : Nat → Option Addr} {H : Hp} {H0 : Bs} {P : Addr → Prop} {σ : L2.St} {env : Env}
theorem ownK_ok {i : Nat} {d : List Val × List Val} (er : ER K CA H0 H P env σ) (h : ownK env i = .ok d) : ∃ a kvs, OwnAt env σ i a ∧ σ[i]? = some (some (.ref a)) ∧ H a = some (.dK kvs) ∧ d.1 = kvs.map (fun kv => kG kv.1) ∧ noLs d.2 = true ∧ RVs K CA H P d.2 (kvs.map (·.2)) := by
  unfold ownK at h
  split at h
  · rename_i ks vs he
    cases h
    obtain ⟨a, o, e2, e3, e4, e5, e6⟩ := er.own i _ he
    cases e6 with
    | dk n r => exact ⟨a, _, ⟨⟨_, he⟩, e2⟩, e2, e3, rfl, n, r⟩
  · cases h
theorem ownK_ne {i : Nat} (c : Nat) : ownK env i ≠ .exc c := by
  intro h
  unfold ownK at h
  split at h <;> cases h
end
def rSetK : V → V → V → Hp → (Hp → Prop) → Prop := fun o i v H Q => ∃ (a : Addr) (kvs : List (Key × V)) (k : Key), o = .ref a ∧ i = kV k ∧ H a = some (.dK kvs) ∧ kvs.length < sizeLine ∧ Q (upd H a (.dK (putK kvs k v)))
theorem set_dk {X : Cx} (hu : X.A.units + 64 < cLine) : PSet X rSetK := by
  intro pins s σ H o i v ov iv u Q I ro ri rv h
  obtain ⟨a, kvs, k, rfl, rfl, h1, h4, q⟩ := h
  cases ro
  exact d_setItem (by omega) I (DPut.k h1 h4) ri rv fun s' I' => ⟨_, I', q⟩
theorem s_kput (hu : X.A.units + 64 < cLine) {i : Nat} {x : Str} {px pa : Pos} (hN : X.N[i]? = some x) (hv : Vis X.env.scope x) (hd : (x == ("__debug__" : Str)) = false) (hcd : (x == ("__classdict__" : Str)) = false)
    (hsl : ∀ v, assign (.Subscript (.Name x px) b pa) X.env v = (do
      let ov ← holding [v] (eval (.Name x px) X.env)
      let iv ← holding [v, ov] (eval b X.env)
      standAt pa
      holding [v, ov, iv] (setItem ov iv v)
      release [v, ov, iv] [])) (hs : noComp a = true) (ha : V3 CA cl H0 X a ea) (hb : V3 CA cl H0 X b eb) :
    S3 CA cl H0 X (.Assign [.Subscript (.Name x px) b pa] a pos) (.kput i eb ea) := fun W tk =>
  (ps_asg (ha.val W tk) (pg_sub (pe_var hN hv hd hcd) (hb.opd W tk) (set_dk hu) hsl) (show swapsWithSole [.Subscript (.Name x px) b pa] a pos.line X.env = pure false from noComp.sw hs (some (.Subscript (.Name x px) b pa)) pos.line X.env) rfl rfl).imp fun D σ H q => by
    obtain ⟨env, P, er, q⟩ := q
    obtain ⟨P1, g1, er1⟩ := er.frz (kept ea)
    refine ⟨_, P1, er1, (rO_res er1 g1 q).imp fun p q H' P' y st r => ?_⟩
    obtain ⟨P3, st3, g3, r3⟩ := r.rv st
    have er3 := er1.grow st3
    have q := rO_res er3 (fun _ z => z) (q.at st3.persR)
    cases e1 : ownK (frzE env ea) i with
    | exc z => exact absurd e1 (ownK_ne _)
    | bad => rw [e1] at q; exact q.elim
    | ok d =>
      rw [e1] at q
      obtain ⟨ad, kvs, o, hσ, hH, ek, nl, rk⟩ := ownK_ok er3 e1
      refine ⟨.ref ad, hσ, _, P3, er3, (rO_res er3 (fun _ z => z) q).imp fun kv q H4 P4 z st4 r4 => ?_⟩
      have q : ResS X.K CA H0 H' P3 W D (if (isK kv && noL p.1 && lenOk (d.1.length + 1)) = true then O.nx (put (frzE env ea) i (.dk (dkP d.1 d.2 kv p.1).1 (dkP d.1 d.2 kv p.1).2) true) else .bad) := q
      split at q
      · rename_i hc
        rw [Bool.and_eq_true, Bool.and_eq_true] at hc
        obtain ⟨⟨hk, hn⟩, hl⟩ := hc
        have er4 := er3.grow st4
        have q := q.at st4.persR
        obtain ⟨k, rfl, rfl⟩ := kG_rel (k := .inl 0) hk r4
        have hlen : kvs.length < sizeLine := by
          rw [ek, List.length_map] at hl
          exact LIM_lt hl
        have r5 := rk.mono st4.s st4.g.1
        have ow := dkP_rv (k := k) (a := ad) (r3.mono st4.s st4.g.1) hn nl r5
        rw [← ek] at ow
        obtain ⟨er5, pr⟩ := er4.wrtO o ow
        exact ⟨ad, kvs, k, rfl, rfl, st4.s _ _ hH, hlen, q _ _ P4 pr er5⟩
      · exact q.elim
end
end G

set_option linter.all false
set_option maxHeartbeats 4000000
set_option maxRecDepth 10000
namespace G
open PySem PySem.Spec PyProof.Rows HT
open L2 hiding Takes XE CX takes_of passes_call ps_raise PMk MkP mk_of pmk_own passAt ps_try_as ps_try_many HdsOk
open L2N (Takes XE CX takes_of passes_call ps_raise PMk MkP mk_of pmk_own passAt)
section
variable {K : PySem.W.Frag} {CA : Nat → Option Addr} {H : Hp} {P : Addr → Prop}
mutual
theorem rv_hideA : ∀ (v : Val) {x : V}, RV K CA H P v x → RV K CA H P (hideAV v) x
  | .non, _, r => r
  | .bl b, _, r => r
  | .int i, _, r => r
  | .str z, _, r => r
  | .tup vs, _, r => by
    cases r with
    | tup q t => exact .tup q (rvs_hideA vs t)
  | .lst vs, _, r => by
    cases r with
    | lst p q t => exact .hid p q
  | .fn k, _, r => r
  | .scr ns, _, r => r
  | .exc c, _, r => r
  | .hid, _, r => r
  | .dct k, _, r => r
  | .dk ks vs, _, r => r
theorem rvs_hideA : ∀ (vs : List Val) {xs : List V}, RVs K CA H P vs xs → RVs K CA H P (hideAVs vs) xs
  | [], _, r => by cases r; exact .nil
  | v :: vs, _, r => by
    cases r with
    | cons r t => exact .cons (rv_hideA v r) (rvs_hideA vs t)
end
mutual
theorem hideAA : ∀ v : Val, hideAV (hideAV v) = hideAV v
  | .non => rfl
  | .bl b => rfl
  | .int i => rfl
  | .str z => rfl
  | .tup vs => by show Val.tup (hideAVs (hideAVs vs)) = .tup (hideAVs vs); rw [hideAAs vs]
  | .lst vs => rfl
  | .fn k => rfl
  | .scr ns => rfl
  | .exc c => rfl
  | .hid => rfl
  | .dct k => rfl
  | .dk ks vs => rfl
theorem hideAAs : ∀ vs : List Val, hideAVs (hideAVs vs) = hideAVs vs
  | [] => rfl
  | v :: vs => by show hideAV (hideAV v) :: hideAVs (hideAVs vs) = _; rw [hideAA v, hideAAs vs]; rfl
end
theorem hideAVs_len : ∀ vs : List Val, (hideAVs vs).length = vs.length
  | [] => rfl
  | v :: vs => by show (hideAVs vs).length + 1 = _; rw [hideAVs_len vs]; rfl
end
section
variable {X : Cx} {CA : Nat → Option Addr} {cl : Nat → List Val → G.R (Val × Bool)} {H0 : Bs} {pos : Pos} {args : List Val}
theorem t_forM {tgsrc iter : Expr} {tg : Tg} {f : Nat} {body : List Stmt} {bs : List S} (hp : PassesOwn (model X.prog X.w) X.A X.env X.xe) (hN : X.N.Nodup) (hc : X.calm = true) (ht : TgP X tgsrc tg) (hi : VI CA cl H0 X iter (.val (.nm f))) (hb : Ss3 CA cl H0 X body bs) (hbt : Ts3 CA cl H0 args X body bs)
    {Z : Hp → (Addr → Prop) → Prop} (hZ : Stb Z) {W : WX} (tk : Takes X W) :
    PS X (.For tgsrc iter body [] pos) (fun D σ H => ∃ env P vs, ER X.K CA H0 H P env σ ∧ Z H P ∧ env[f]? = some (some (.tup vs, false)) ∧ ResT X.K CA H0 Z W D (forTn tg (fun e => evSs cl bs e) (fun e => evTs cl args bs e) vs.length vs env)) := by
  have hbody : PSs X body (fun D σ H => tSs X.K CA cl H0 W bs D σ H ∨ ∃ Y : Hp → (Addr → Prop) → Prop, Stb Y ∧ tTs X.K CA cl H0 Y W args bs D σ H) := ⟨fun pins s σ H D I q => by
    rcases q with q | ⟨Y, hY, q⟩
    · exact (hb W tk).run pins s σ H D I q
    · exact (hbt Y hY W tk).run pins s σ H D I q⟩
  refine (ps_for hp hc (hi.tup f rfl W tgsrc tk) (pg_tg hN hc ht) hbody (fun x => hi.fs _ x)).imp fun D σ H q => ?_
  obtain ⟨env, P, vs, er, z, hv, q⟩ := q
  refine ⟨env, P, vs, er, hv, fun H1 P1 a xs st sq rv => ?_⟩
  refine ⟨fun i m σ H => i ≤ xs.length ∧ m = xs.length - i ∧ ∃ items env P, ER X.K CA H0 H P env σ ∧ Z H P ∧ SqT X.K H a xs ∧ RVs X.K CA H P items (xs.drop i) ∧ ResT X.K CA H0 Z W D (forTn tg (fun e => evSs cl bs e) (fun e => evTs cl args bs e) items.length items env), ⟨_, Nat.zero_le _, rfl, vs, env, P1, er.grow st, hZ.pers z st.persR, sq, by rw [List.drop_zero]; exact rv, q⟩, ?_⟩
  rintro i m σ H ⟨hi', rfl, items, env, P, er, z, sq, rv, q⟩
  by_cases hlt : i < xs.length
  · right
    rw [List.drop_eq_getElem_cons hlt] at rv
    cases rv with
    | @cons v _ rest _ rvv rvs =>
      refine ⟨⟨xs, xs[i], sq, List.getElem?_eq_getElem hlt⟩, fun σ' H' => i + 1 ≤ xs.length ∧ ∃ items env P, ER X.K CA H0 H' P env σ' ∧ Z H' P ∧ SqT X.K H' a xs ∧ RVs X.K CA H' P items (xs.drop (i + 1)) ∧ ResT X.K CA H0 Z W D (forTn tg (fun e => evSs cl bs e) (fun e => evTs cl args bs e) items.length items env), fun σ' H' n => ⟨xs.length - (i + 1), by omega, n.1, rfl, n.2⟩, fun y H' hy => ?_⟩
      obtain ⟨e, hy⟩ := hy
      subst e
      have hx := hy xs sq
      rw [List.getElem?_eq_getElem hlt] at hx
      cases Option.some.inj hx
      have q : ResT X.K CA H0 Z W D (match bindT tg env v with
        | .ok env1 => (match evSs cl bs env1 with
          | .nx env' => forTn tg (fun e => evSs cl bs e) (fun e => evTs cl args bs e) rest.length rest env'
          | .cnt env' => forTn tg (fun e => evSs cl bs e) (fun e => evTs cl args bs e) rest.length rest env'
          | .brk env' => .nx env'
          | .bad => (match evTs cl args bs env1 with
            | .nx env' => forTn tg (fun e => evSs cl bs e) (fun e => evTs cl args bs e) rest.length (hideAVs rest) env'
            | .cnt env' => forTn tg (fun e => evSs cl bs e) (fun e => evTs cl args bs e) rest.length (hideAVs rest) env'
            | .brk env' => .nx env'
            | o => o)
          | o => o)
        | _ => .bad) := q
      cases e1 : bindT tg env v with
      | exc c => rw [e1] at q; exact q.elim
      | bad => rw [e1] at q; exact q.elim
      | ok env1 =>
        rw [e1] at q
        dsimp only at q
        refine bindT_ok er rvv e1 fun σ' er' _ => ?_
        cases e2 : evSs cl bs env1 with
        | nx env' =>
          rw [e2] at q
          exact .inl ⟨env1, P, er', by rw [e2]; exact fun σ' H2 P' r er' => ⟨hlt, rest, env', P', er', hZ.pers z r, r.1.sqT sq, RVs.pers r.1 r.2 _ rvs, q⟩⟩
        | cnt env' =>
          rw [e2] at q
          exact .inl ⟨env1, P, er', by rw [e2]; exact fun σ' H2 P' r er' => ⟨hlt, rest, env', P', er', hZ.pers z r, r.1.sqT sq, RVs.pers r.1 r.2 _ rvs, q⟩⟩
        | brk env' =>
          rw [e2] at q
          exact .inl ⟨env1, P, er', by rw [e2]; exact fun σ' H2 P' r er' => q σ' H2 P' er' (hZ.pers z r)⟩
        | ret v fr => rw [e2] at q; exact .inl ⟨env1, P, er', by rw [e2]; exact q⟩
        | rtn vs => rw [e2] at q; exact .inl ⟨env1, P, er', by rw [e2]; exact q⟩
        | exc c env' =>
          rw [e2] at q
          exact .inl ⟨env1, P, er', by rw [e2]; exact fun σ' H2 P' C r er' hC => q σ' H2 P' C er' hC⟩
        | bad =>
          rw [e2] at q
          dsimp only at q
          refine .inr ⟨fun H2 P2 => Z H2 P2 ∧ SqT X.K H2 a xs ∧ RVs X.K CA H2 P2 (hideAVs rest) (xs.drop (i + 1)), ⟨fun h r => ⟨hZ.pers h.1 r, r.1.sqT h.2.1, RVs.pers r.1 r.2 _ h.2.2⟩, fun {_ _ _ _ ys} h M pa => ⟨hZ.upd h.1 M pa, sqT_upd M h.2.1, by have := hideA_rvs (ys := ys) M _ h.2.2; rw [hideAAs] at this; exact this⟩⟩, env1, P, er', ⟨z, sq, rvs_hideA rest rvs⟩, ?_⟩
          cases e3 : evTs cl args bs env1 with
          | nx env' =>
            rw [e3] at q
            exact fun σ' H2 P' er' h => ⟨hlt, hideAVs rest, env', P', er', h.1, h.2.1, h.2.2, by rw [hideAVs_len]; exact q⟩
          | cnt env' =>
            rw [e3] at q
            exact fun σ' H2 P' er' h => ⟨hlt, hideAVs rest, env', P', er', h.1, h.2.1, h.2.2, by rw [hideAVs_len]; exact q⟩
          | brk env' =>
            rw [e3] at q
            exact fun σ' H2 P' er' h => q σ' H2 P' er' h.1
          | ret v fr => rw [e3] at q; exact q
          | rtn vs => rw [e3] at q; exact q
          | exc c env' => rw [e3] at q; exact q
          | bad => rw [e3] at q; exact q.elim
  · left
    have ei : i = xs.length := by omega
    subst ei
    rw [List.drop_length] at rv
    cases rv
    exact ⟨⟨xs, sq, Nat.le_refl _⟩, q σ H P er z⟩
theorem t_for {tgsrc iter : Expr} {tg : Tg} {it : G.It} {body : List Stmt} {bs : List S} (hp : PassesOwn (model X.prog X.w) X.A X.env X.xe) (hN : X.N.Nodup) (hc : X.calm = true) (ht : TgP X tgsrc tg) (hi : VI CA cl H0 X iter it) (hz : TupS it tgsrc) (hb : Ss3 CA cl H0 X body bs) (hbt : Ts3 CA cl H0 args X body bs) :
    T3 CA cl H0 args X (.For tgsrc iter body [] pos) (.for tg it bs) := fun Z hZ W tk => ⟨fun pins s σ H D I q => by
  obtain ⟨env, P, er, z, q⟩ := q
  have q : ResT X.K CA H0 Z W D (match evS cl (.for tg it bs) env with
    | .bad => forMO tg (fun e => evSs cl bs e) (fun e => evTs cl args bs e) env it
    | o => o) := q
  have go : evS cl (.for tg it bs) env ≠ .bad → wpAny (model X.prog X.w) X.A (exec (.For tgsrc iter body [] pos) X.env) (SP X pins D) X.xe s := fun nb => by
    refine (s_for (pos := pos) hp hN hc ht hi hz hb W tk).run pins s σ H D I ⟨env, P, er, ?_⟩
    cases e0 : evS cl (.for tg it bs) env with
    | bad => exact absurd e0 nb
    | _ => rw [e0] at q; exact ResT.toS hZ z q
  by_cases nb : evS cl (.for tg it bs) env = .bad
  · rw [nb] at q
    dsimp only at q
    unfold forMO at q
    split at q
    · rename_i f
      split at q
      · rename_i vs hv
        exact (t_forM (pos := pos) hp hN hc ht hi hb hbt hZ tk).run pins s σ H D I ⟨env, P, vs, er, z, hv, q⟩
      · exact q.elim
    · exact q.elim
  · exact go nb⟩
end
end G

set_option linter.all false
set_option maxHeartbeats 2000000
set_option maxRecDepth 100000
namespace G
open PySem PySem.Spec PyProof.Rows HT
open L2 hiding Takes XE CX takes_of passes_call ps_raise PMk MkP mk_of pmk_own passAt ps_try_as ps_try_many HdsOk
open L2N (Takes XE CX takes_of passes_call ps_raise PMk MkP mk_of pmk_own passAt)
section
variable {K : PySem.W.Frag} {CA : Nat → Option Addr} {H H1 H' H2 : Hp} {H0 : Bs} {P P1 P' P2 : Addr → Prop} {σ : L2.St} {env : Env}
theorem shN_get (h : env.all shN = true) {i : Nat} {p : Val × Bool} (e : env[i]? = some (some p)) : p.2 = false ∧ noL p.1 = true := by
  have m := List.all_eq_true.mp h _ (List.mem_of_getElem? e)
  obtain ⟨v, o⟩ := p
  cases o with
  | true => cases m
  | false => exact ⟨rfl, m⟩
theorem keepE_all : ∀ {env : Env}, env.all shN = true → keepE env = env
  | [], _ => rfl
  | x :: env, h => by
    rw [List.all_cons, Bool.and_eq_true] at h
    show keepS x :: keepE env = _
    rw [keepE_all h.2]
    congr 1
    cases x with
    | none => rfl
    | some p =>
      obtain ⟨v, o⟩ := p
      cases o with
      | true => cases h.1
      | false =>
        have n : noL v = true := h.1
        have : keepS (some (v, false)) = if noL v = true then some (v, false) else none := by cases v <;> rfl
        rw [this, if_pos n]
theorem frz_all (h : env.all shN = true) (i : Nat) : frz env i = env := by
  unfold frz
  split
  · rename_i v o e
    have := (shN_get h e).1
    dsimp only at this
    subst this
    obtain ⟨hi, e⟩ := List.getElem?_eq_some_iff.mp e
    rw [← e]
    exact List.set_getElem_self hi
  · rfl
theorem frzAll_all (h : env.all shN = true) : ∀ is : List Nat, frzAll env is = env
  | [] => rfl
  | i :: is => by
    show frzAll (frz env i) is = env
    rw [frz_all h]
    exact frzAll_all h is
theorem all_set (h : env.all shN = true) {i : Nat} {x : Option (Val × Bool)} (hx : shN x = true) : (env.set i x).all shN = true := by
  rw [List.all_eq_true] at h ⊢
  intro y hy
  rcases List.mem_or_eq_of_mem_set hy with hy | rfl
  · exact h y hy
  · exact hx
theorem ER.updA (er : ER K CA H0 H P env σ) (ha : env.all shN = true) {z : Addr} {xs : List V} {o : HO} (h : H z = some (.lst xs)) (np : ¬ P z) (n0 : H0.h z = none) : ER K CA H0 (upd H z o) P env σ where
  ext := fun b u e => by
    have : b ≠ z := fun q => by rw [q, n0] at e; cases e
    rw [upd_ne this]; exact er.ext b u e
  gr := er.gr
  trk := fun b q => by
    obtain ⟨o', e, m⟩ := er.trk b q
    have : b ≠ z := fun q' => np (q' ▸ q)
    exact ⟨o', by rw [upd_ne this]; exact e, m⟩
  len := er.len
  shr := fun i v e => by
    obtain ⟨x, e1, r⟩ := er.shr i v e
    exact ⟨x, e1, RV.pers (pers_upd h np) (fun _ z => z) v r⟩
  own := fun i v e => absurd (shN_get ha e).1 (show ¬ (true = false) by decide)
  dis := fun i j v w a e => absurd (shN_get ha e).1 (show ¬ (true = false) by decide)
def Hot (K : PySem.W.Frag) (CA : Nat → Option Addr) (H0 : Bs) (H : Hp) (P : Addr → Prop) (i : Nat) (σ : L2.St) (d : List Val) (b : Bool) (ws : List Val) : Prop :=
  ∃ a xs t l us, σ[i]? = some (some (.ref a)) ∧ H a = some (.lst (xs ++ [.ref t])) ∧ ¬ P a ∧ H0.h a = none ∧ RVs K CA H P d xs ∧ SqT K H t [.bl b, .ref l] ∧ H l = some (.lst us) ∧ ¬ P l ∧ H0.h l = none ∧ l ≠ a ∧ RVs K CA H P ws us ∧ noLs ws = true
theorem Hot.step {i : Nat} {d ws : List Val} {b : Bool} (h : Hot K CA H0 H P i σ d b ws) (st : Step P H P' H') : Hot K CA H0 H' P' i σ d b ws := by
  obtain ⟨a, xs, t, l, us, h1, h2, h3, h4, h5, h6, h7, h8, h9, h10, h11, h12⟩ := h
  have no : ∀ {z : Addr} {o : HO}, H z = some o → ¬ P z → ¬ P' z := fun e n q => (st.g.2 _ q).elim n fun z => by rw [z] at e; cases e
  exact ⟨a, xs, t, l, us, h1, st.s _ _ h2, no h2 h3, h4, h5.mono st.s st.g.1, (Pers.of_same (P := P) st.s).sqT h6, st.s _ _ h7, no h7 h8, h9, h10, h11.mono st.s st.g.1, h12⟩
theorem Hot.slot {i : Nat} {d ws : List Val} {b : Bool} {σ' : L2.St} (h : Hot K CA H0 H P i σ d b ws) (e : σ'[i]? = σ[i]?) : Hot K CA H0 H P i σ' d b ws := by
  obtain ⟨a, xs, t, l, us, h1, h2⟩ := h
  exact ⟨a, xs, t, l, us, by rw [e]; exact h1, h2⟩
theorem hot_word {i : Nat} {d ws : List Val} {b : Bool} {a t l : Addr} {xs us : List V} (h1 : σ[i]? = some (some (.ref a))) (h2 : H a = some (.lst (xs ++ [.ref t]))) (h3 : ¬ P a) (h4 : H0.h a = none) (h5 : RVs K CA H P d xs) (h6 : SqT K H t [.bl b, .ref l]) (h7 : H l = some (.lst us)) (h8 : ¬ P l) (h9 : H0.h l = none) (h10 : l ≠ a) (h11 : RVs K CA H P ws us) (h12 : noLs ws = true)
    (er : ER K CA H0 H P env σ) (ha : env.all shN = true) {v : Val} {x : V} (r : RV K CA H P v x) (n : noL v = true) :
    ER K CA H0 (upd H l (.lst (us ++ [x]))) P env σ ∧ PersR H P (upd H l (.lst (us ++ [x]))) P ∧ Hot K CA H0 (upd H l (.lst (us ++ [x]))) P i σ d b (ws ++ [v]) := by
  have pr : PersR H P (upd H l (.lst (us ++ [x]))) P := ⟨pers_upd h7 h8, fun _ z => z⟩
  refine ⟨er.updA ha h7 h8 h9, pr, a, xs, t, l, us ++ [x], h1, ?_, h3, h4, RVs.pers pr.1 pr.2 _ h5, pr.1.sqT h6, upd_same, h8, h9, h10, ?_, ?_⟩
  · rw [upd_ne (fun z => h10 z.symm)]; exact h2
  · exact RVs.pers pr.1 pr.2 _ (h11.append (.cons r .nil))
  · exact noLs_app h12 (by simp [noLs, n])
theorem hot_group {i : Nat} {d ws : List Val} {b k : Bool} {a t l : Addr} {xs us : List V} (h1 : σ[i]? = some (some (.ref a))) (h2 : H a = some (.lst (xs ++ [.ref t]))) (h3 : ¬ P a) (h4 : H0.h a = none) (h5 : RVs K CA H P d xs) (h6 : SqT K H t [.bl b, .ref l]) (h7 : H l = some (.lst us)) (h8 : ¬ P l) (h9 : H0.h l = none) (h10 : l ≠ a) (h11 : RVs K CA H P ws us) (h12 : noLs ws = true)
    (er : ER K CA H0 H P env σ) (ha : env.all shN = true) {H' : Hp} {S : Addr → Prop} {y : V} (s : Same H H') (hS : ∀ z, S z → H z = none) (r : RV K CA H' S (.tup [.bl k, .lst []]) y) :
    ∃ P', ER K CA H0 (upd H' a (.lst (xs ++ [.ref t] ++ [y]))) P' env σ ∧ PersR H P (upd H' a (.lst (xs ++ [.ref t] ++ [y]))) P' ∧ Hot K CA H0 (upd H' a (.lst (xs ++ [.ref t] ++ [y]))) P' i σ (d ++ [.tup [.bl b, .lst ws]]) k [] := by
  have h2' := s _ _ h2
  have h7' := s _ _ h7
  cases r with
  | @tup t' ys _ sq rs =>
  cases rs with
  | cons r1 rs =>
  cases rs with
  | cons r2 rs =>
  cases rs
  cases r1
  cases r2 with
  | @lst l' us' _ pl hl ru =>
  cases ru
  have nl : H l' = none := hS _ pl
  have la : l' ≠ a := fun z => by rw [z, h2] at nl; cases nl
  have ll : l' ≠ l := fun z => by rw [z, h7] at nl; cases nl
  have npl : ¬ P l' := fun q => by
    obtain ⟨o, e, _⟩ := er.trk _ q
    rw [nl] at e; cases e
  have st : Step P H P H' := ⟨s, .refl, fun b q => by
    obtain ⟨o, e, m⟩ := er.trk b q
    exact ⟨o, s _ _ e, m⟩⟩
  have er1 : ER K CA H0 H' P env σ := er.grow st
  have er2 : ER K CA H0 (upd H' a (.lst (xs ++ [.ref t] ++ [.ref t']))) P env σ := er1.updA ha h2' h3 h4
  have pr : PersR H' P (upd H' a (.lst (xs ++ [.ref t] ++ [.ref t']))) P := ⟨pers_upd h2' h3, fun _ z => z⟩
  have el : upd H' a (.lst (xs ++ [.ref t] ++ [.ref t'])) l = some (.lst us) := by rw [upd_ne h10]; exact h7'
  have gp : ∀ z, P z → P z ∨ z = l := fun z q => .inl q
  refine ⟨fun z => P z ∨ z = l, ?_, ⟨(st.persR.trans pr).1, gp⟩, a, xs ++ [.ref t], t', l', [], h1, upd_same, ?_, h4, ?_, ?_, ?_, ?_, ?_, la, .nil, rfl⟩
  · exact {
      ext := er2.ext
      gr := ⟨fun z q => .inl (er2.gr.1 z q), fun z q => q.elim (er2.gr.2 z) fun e => .inr (by rw [e]; exact h9)⟩
      trk := fun z q => q.elim (er2.trk z) fun e => by rw [e]; exact ⟨_, el, .l⟩
      len := er2.len
      shr := fun j v e => by
        obtain ⟨x, e1, r⟩ := er2.shr j v e
        exact ⟨x, e1, r.mono (Same.refl _) gp⟩
      own := fun j v e => absurd (shN_get ha e).1 (show ¬ (true = false) by decide)
      dis := fun j j' v w a e => absurd (shN_get ha e).1 (show ¬ (true = false) by decide) }
  · exact fun q => q.elim h3 fun e => h10 e.symm
  · have q1 : RVs K CA (upd H' a (.lst (xs ++ [.ref t] ++ [.ref t']))) (fun z => P z ∨ z = l) d xs := RVs.pers (st.persR.trans pr).1 gp _ h5
    have q2 : RVs K CA (upd H' a (.lst (xs ++ [.ref t] ++ [.ref t']))) (fun z => P z ∨ z = l) ws us := RVs.pers (st.persR.trans pr).1 gp _ h11
    exact q1.append (.cons (.tup ((st.persR.trans pr).1.sqT h6) (.cons (.bl b) (.cons (.lst (.inr rfl) el q2) .nil))) .nil)
  · exact pr.1.sqT sq
  · rw [upd_ne la]; exact hl
  · exact fun q => q.elim npl ll
  · cases e : H0.h l' with
    | none => rfl
    | some o => have := er.ext _ _ e; rw [nl] at this; cases this
theorem Hot.done {i : Nat} {d ws : List Val} {b : Bool} (h : Hot K CA H0 H P i σ d b ws) (er : ER K CA H0 H P env σ) (ha : env.all shN = true) (hi : i < env.length) :
    ∃ P', ER K CA H0 H P' (G.put env i (.lst (d ++ [.tup [.bl b, .lst ws]])) false) σ ∧ PersR H P H P' := by
  obtain ⟨a, xs, t, l, us, h1, h2, h3, h4, h5, h6, h7, h8, h9, h10, h11, h12⟩ := h
  have gp : ∀ z, P z → (P z ∨ z = l ∨ z = a) := fun z q => .inl q
  have er2 : ER K CA H0 H (fun z => P z ∨ z = l ∨ z = a) env σ := {
      ext := er.ext
      gr := ⟨fun z q => .inl (er.gr.1 z q), fun z q => by
        rcases q with q | rfl | rfl
        · exact er.gr.2 z q
        · exact .inr h9
        · exact .inr h4⟩
      trk := fun z q => by
        rcases q with q | rfl | rfl
        · exact er.trk z q
        · exact ⟨_, h7, .l⟩
        · exact ⟨_, h2, .l⟩
      len := er.len
      shr := fun j v e => by
        obtain ⟨x, e1, r⟩ := er.shr j v e
        exact ⟨x, e1, r.mono (Same.refl _) gp⟩
      own := fun j v e => absurd (shN_get ha e).1 (show ¬ (true = false) by decide)
      dis := fun j j' v w a e => absurd (shN_get ha e).1 (show ¬ (true = false) by decide) }
  refine ⟨_, ?_, ⟨.refl, gp⟩⟩
  have rv : RV K CA H (fun z => P z ∨ z = l ∨ z = a) (.lst (d ++ [.tup [.bl b, .lst ws]])) (.ref a) :=
    .lst (.inr (.inr rfl)) h2 ((h5.mono (Same.refl _) gp).append (.cons (.tup h6 (.cons (.bl b) (.cons (.lst (.inr (.inl rfl)) h7 (h11.mono (Same.refl _) gp)) .nil))) .nil))
  have e3 := er2.put (i := i) rv
  have es : σ.set i (some (.ref a)) = σ := by
    obtain ⟨hl, e⟩ := List.getElem?_eq_some_iff.mp h1
    rw [← e]; exact List.set_getElem_self hl
  rw [es] at e3
  exact e3
end
section
variable {X : Cx} {CA : Nat → Option Addr} {cl : Nat → List Val → G.R (Val × Bool)} {H0 : Bs}
def tGr (K : PySem.W.Frag) (CA : Nat → Option Addr) (cl : Nat → List Val → G.R (Val × Bool)) (H0 : Bs) (i w : Nat) (ec e2 : E) : TS := fun D σ H => ∃ env P d b ws v, ER K CA H0 H P env σ ∧ env.all shN = true ∧ Hot K CA H0 H P i σ d b ws ∧ env[w]? = some (some (v, false)) ∧
  (match evT cl ec env with
    | .ok true => (match evE cl e2 env with
      | .ok (.tup [.bl k, .lst []], false) => lenOk (d.length + 2) = true ∧ ∀ H' P', PersR H P H' P' → ER K CA H0 H' P' env σ → Hot K CA H0 H' P' i σ (d ++ [.tup [.bl b, .lst ws]]) k [] → D.nx σ H'
      | _ => False)
    | .ok false => lenOk (ws.length + 1) = true ∧ ∀ H' P', PersR H P H' P' → ER K CA H0 H' P' env σ → Hot K CA H0 H' P' i σ d b (ws ++ [v]) → D.nx σ H'
    | _ => False)
def tGrA (K : PySem.W.Frag) (CA : Nat → Option Addr) (cl : Nat → List Val → G.R (Val × Bool)) (H0 : Bs) (i : Nat) (e2 : E) : TS := fun D σ H => ∃ env P d b ws, ER K CA H0 H P env σ ∧ env.all shN = true ∧ Hot K CA H0 H P i σ d b ws ∧
  (match evE cl e2 env with
      | .ok (.tup [.bl k, .lst []], false) => lenOk (d.length + 2) = true ∧ ∀ H' P', PersR H P H' P' → ER K CA H0 H' P' env σ → Hot K CA H0 H' P' i σ (d ++ [.tup [.bl b, .lst ws]]) k [] → D.nx σ H'
      | _ => False)
def tGrB (K : PySem.W.Frag) (CA : Nat → Option Addr) (H0 : Bs) (i w : Nat) : TS := fun D σ H => ∃ env P d b ws v, ER K CA H0 H P env σ ∧ env.all shN = true ∧ Hot K CA H0 H P i σ d b ws ∧ env[w]? = some (some (v, false)) ∧
  lenOk (ws.length + 1) = true ∧ ∀ H' P', PersR H P H' P' → ER K CA H0 H' P' env σ → Hot K CA H0 H' P' i σ d b (ws ++ [v]) → D.nx σ H'
theorem ps_grA {i : Nat} {y : Str} {py pa pc pos : Pos} {sg : Expr} {e2 : E} (hN : X.N[i]? = some y) (hv : Vis X.env.scope y) (hd : (y == ("__debug__" : Str)) = false) (hcd : (y == ("__classdict__" : Str)) = false) (hline : (pa.endLine == pc.line) = true) (hs : okSrc sg = true) (vs : V3 CA cl ⟨H0.h, fun _ => False⟩ X sg e2) {W : WX} (tk : Takes X W) :
    PS X (.Expr (.Call (.Attribute (.Name y py) "append" pa) [sg] [] pc) pos) (tGrA X.K CA cl H0 i e2) :=
  (ps_expr (pe_bm PySem.F.plainAttrs_list PySem.F.slot_list_append PySem.F.type_list_append mt_append (pe_var hN hv hd hcd) (pa_cons (vs.val W tk) pa_nil (okSrc.st hs _ _)) rfl (by rw [okSrc.st hs]; rfl) hline (okSrc.st hs _ _) rfl)).imp fun D σ H q => by
    obtain ⟨env, P, d, b, ws, er, ha, ⟨a, xs, t, l, us, h1, h2, h3, h4, h5, h6, h7, h8, h9, h10, h11, h12⟩, q⟩ := q
    have ek := er.keepE
    rw [keepE_all ha] at ek
    refine ⟨.ref a, h1, .inl ⟨rfl, _, SqL.of h2⟩, _, _, ek, ?_⟩
    cases e1 : evE cl e2 env with
    | exc c => rw [e1] at q; exact q.elim
    | bad => rw [e1] at q; exact q.elim
    | ok p =>
      rw [e1] at q
      split at q
      · rename_i k hp
        cases hp
        obtain ⟨hl, q⟩ := q
        intro H' P' z st r
        rcases r with ⟨_, r⟩ | ⟨e, _⟩
        · obtain ⟨P2, g1, g2, g3⟩ := hot_group h1 h2 h3 h4 h5 h6 h7 h8 h9 h10 h11 h12 er ha st.s (fun z pz => (st.g.2 z pz).elim (fun f => f.elim) id) r
          refine ⟨a, xs ++ [.ref t], z, rfl, rfl, st.s _ _ h2, ?_, q _ P2 g2 g1 g3⟩
          rw [List.length_append, ← h5.length]
          exact LIM_lt hl
        · cases e
      · exact q.elim
theorem ps_grB {i w : Nat} {y x : Str} {py px p1 p2 pa pc pos : Pos} {mi one : Expr} (hN : X.N[i]? = some y) (hv : Vis X.env.scope y) (hd : (y == ("__debug__" : Str)) = false) (hcd : (y == ("__classdict__" : Str)) = false) (hline : (pa.endLine == pc.line) = true)
    (hNx : X.N[w]? = some x) (hvx : Vis X.env.scope x) (hdx : (x == ("__debug__" : Str)) = false) (hcdx : (x == ("__classdict__" : Str)) = false)
    (hm : okSrc mi = true) (vm : V3 CA cl H0 X mi (.neg (.cst (.int 1)))) (h1s : okSrc one = true) (v1 : V3 CA cl H0 X one (.cst (.int 1))) {W : WX} (tk : Takes X W) :
    PS X (.Expr (.Call (.Attribute (.Subscript (.Subscript (.Name y py) mi p1) one p2) "append" pa) [.Name x px] [] pc) pos) (tGrB X.K CA H0 i w) :=
  (ps_expr (pe_bm PySem.F.plainAttrs_list PySem.F.slot_list_append PySem.F.type_list_append mt_append (pe_ix ix_tup (pe_ix ix_list (pe_var hN hv hd hcd) (vm.opd W tk) (okSrc.pi hm)) (v1.opd W tk) (okSrc.pi h1s)) (pa_cons (pe_var hNx hvx hdx hcdx) pa_nil rfl) rfl rfl hline rfl rfl)).imp fun D σ H q => by
    obtain ⟨env, P, d, b, ws, v, er, ha, ⟨a, xs, t, l, us, h1, h2, h3, h4, h5, h6, h7, h8, h9, h10, h11, h12⟩, hw, hl, q⟩ := q
    refine ⟨.ref a, h1, env, P, er, fun H1 P1 z1 st1 r1 => ?_⟩
    cases r1.int
    have no1 : ∀ {z : Addr} {o : HO}, H z = some o → ¬ P z → ¬ P1 z := fun e n q => (st1.g.2 _ q).elim n fun z => by rw [z] at e; cases e
    refine ⟨a, xs ++ [.ref t], -1, .ref t, rfl, rfl, SqL.of (st1.s _ _ h2), ?_, env, P1, er.grow st1, fun H2 P2 z2 st2 r2 => ?_⟩
    · have : L2.ixN (xs ++ [V.ref t]).length (-1) = some xs.length := by
        unfold L2.ixN
        rw [List.length_append]
        simp
        omega
      unfold L2.atI
      rw [this]
      simp
    cases r2.int
    have no2 : ∀ {z : Addr} {o : HO}, H z = some o → ¬ P z → ¬ P2 z := fun e n q => (st2.g.2 _ q).elim (no1 e n) fun z => by rw [st1.s _ _ e] at z; cases z
    have sa := st1.s.trans st2.s
    have pe : Pers P H H2 := Pers.of_same sa
    have gp : ∀ z, P z → P2 z := fun z q => st2.g.1 z (st1.g.1 z q)
    refine ⟨t, [.bl b, .ref l], 1, .ref l, rfl, rfl, pe.sqT h6, rfl, .inl ⟨rfl, us, SqL.of (sa _ _ h7)⟩, ?_⟩
    obtain ⟨y, hy, ry⟩ := er.shr w v hw
    refine ⟨y, hy, ?_⟩
    have er2 : ER X.K CA H0 H2 P2 env σ := (er.grow st1).grow st2
    obtain ⟨g1, g2, g3⟩ := hot_word (σ := σ) (i := i) h1 (sa _ _ h2) (no2 h2 h3) h4 (h5.mono sa gp) (pe.sqT h6) (sa _ _ h7) (no2 h7 h8) h9 h10 (h11.mono sa gp) h12 er2 ha (v := v) (ry.mono sa gp) (shN_get ha hw).2
    refine ⟨l, us, y, rfl, rfl, sa _ _ h7, ?_, q _ P2 (PersR.trans ⟨pe, gp⟩ g2) g1 g3⟩
    rw [← h11.length]
    exact LIM_lt hl
theorem trmO_cases {i w : Nat} {r : G.R (Val × Bool)} {it : G.R (List Val)} {c : Env → G.R Bool} {s : Env → G.R (Val × Bool)} {env : Env} : trmO i w r it c s env = .bad ∨ (env.all shN = true ∧ i ≠ w ∧ (i < env.length ∧ w < env.length) ∧ ∃ b vs env' d, r = .ok (.lst [.tup [.bl b, .lst []]], true) ∧ it = .ok vs ∧ trmG w c s vs (env.set i none) [] b [] = some (env', d) ∧ trmO i w r it c s env = .nx (G.put env' i (.lst d) false)) := by
  unfold trmO
  by_cases hc : (env.all shN && !(i == w) && (decide (i < env.length) && decide (w < env.length))) = true
  · rw [if_pos hc]
    rw [Bool.and_eq_true, Bool.and_eq_true, Bool.and_eq_true, Bool.not_eq_true', beq_eq_false_iff_ne, decide_eq_true_iff, decide_eq_true_iff] at hc
    split
    · rename_i b
      split
      · rename_i vs
        split
        · rename_i env' d e
          exact .inr ⟨hc.1.1, hc.1.2, hc.2, b, vs, env', d, rfl, rfl, e, rfl⟩
        · exact .inl rfl
      · exact .inl rfl
    · exact .inl rfl
  · rw [if_neg hc]; exact .inl rfl
theorem trmG_cons {w : Nat} {c : Env → G.R Bool} {s : Env → G.R (Val × Bool)} {v : Val} {vs d ws : List Val} {env : Env} {b : Bool} {r : Env × List Val} (h : trmG w c s (v :: vs) env d b ws = some r) : noL v = true ∧
    ((∃ k, c (G.put env w v false) = .ok true ∧ s (G.put env w v false) = .ok (.tup [.bl k, .lst []], false) ∧ lenOk (d.length + 2) = true ∧ trmG w c s vs (G.put env w v false) (d ++ [.tup [.bl b, .lst ws]]) k [] = some r) ∨
    (c (G.put env w v false) = .ok false ∧ lenOk (ws.length + 1) = true ∧ trmG w c s vs (G.put env w v false) d b (ws ++ [v]) = some r)) := by
  unfold trmG at h
  split at h
  · rename_i n
    refine ⟨n, ?_⟩
    split at h
    · rename_i e1
      split at h
      · rename_i k e2
        split at h
        · rename_i e3
          exact .inl ⟨k, e1, e2, e3, h⟩
        · cases h
      · cases h
    · rename_i e1
      split at h
      · rename_i e3
        exact .inr ⟨e1, e3, h⟩
      · cases h
    · cases h
  · cases h
theorem ss_trm {i w : Nat} {y x : Str} {py py2 py3 px px2 p1 p2 q1 q2 pa pa2 pc pc2 pe pe2 pif : Pos} {ea it cnd sg mi one : Expr} {el ec e2 ei : E} {ss : List Stmt} {ts : List S}
    (hp : PassesOwn (model X.prog X.w) X.A X.env X.xe) (hN : X.N.Nodup) (hc : X.calm = true)
    (hyi : X.N[i]? = some y) (hyl : Loc X.env.scope y) (hyf : X.fn y = true ∨ X.env.scope.names.lookup y = some .local) (hv : Vis X.env.scope y) (hd : (y == ("__debug__" : Str)) = false) (hcd : (y == ("__classdict__" : Str)) = false)
    (hxi : X.N[w]? = some x) (hxl : Loc X.env.scope x) (hxf : X.fn x = true ∨ X.env.scope.names.lookup x = some .local) (hvx : Vis X.env.scope x) (hdx : (x == ("__debug__" : Str)) = false) (hcdx : (x == ("__classdict__" : Str)) = false)
    (hs1 : noComp ea = true) (va : V3 CA cl ⟨H0.h, fun _ => False⟩ X ea el) (vc : V3 CA cl H0 X cnd ec) (hss : okSrc sg = true) (vs : V3 CA cl ⟨H0.h, fun _ => False⟩ X sg e2)
    (hm : okSrc mi = true) (vm : V3 CA cl H0 X mi (.neg (.cst (.int 1)))) (h1s : okSrc one = true) (v1 : V3 CA cl H0 X one (.cst (.int 1))) (hi : VI CA cl H0 X it (.val ei)) (hbi : borI (.val ei) = false)
    (hline : (pa.endLine == pc.line) = true) (hline2 : (pa2.endLine == pc2.line) = true) (h2 : Ss3 CA cl H0 X ss ts) :
    Ss3 CA cl H0 X (.Assign [.Name y py] ea p1 :: .For (.Name x px) it [.If cnd [.Expr (.Call (.Attribute (.Name y py2) "append" pa) [sg] [] pc) pe] [.Expr (.Call (.Attribute (.Subscript (.Subscript (.Name y py3) mi q1) one q2) "append" pa2) [.Name x px2] [] pc2) pe2] pif] [] p2 :: ss) (.trm i w el ec e2 ei :: ts) := fun W tk =>
  (pss_cons (ps_set hN hyi hyl (va.val W tk) (noComp.sw hs1 _ _ _) hyf) (pss_cons (ps_for hp hc (hi.loop hbi W (.Name x px) tk (fun z => by cases z)) (pg_tg hN hc (.one hxi hxl hxf)) (pss_cons (ps_if (vc.tst W tk) (pss_cons (ps_grA (H0 := H0) hyi hv hd hcd hline hss vs tk) pss_nil) (pss_cons (ps_grB (H0 := H0) hyi hv hd hcd hline2 hxi hvx hdx hcdx hm vm h1s v1 tk) pss_nil)) pss_nil) (fun x => hi.fs _ x)) (h2 W tk))).imp fun D σ H q => by
    obtain ⟨env, P, er, q⟩ := q
    have q : ResS X.K CA H0 H P W D (match trmO i w (evE cl el env) (evIt cl (.val ei) (env.set i none)) (fun e => evT cl ec e) (fun e => evE cl e2 e) env with | .nx env' => evSs cl ts env' | o => o) := q
    rcases trmO_cases (i := i) (w := w) (r := evE cl el env) (it := evIt cl (.val ei) (env.set i none)) (c := fun e => evT cl ec e) (s := fun e => evE cl e2 e) (env := env) with hb | ⟨ha, hne, ⟨hlen, hlw⟩, b, vs, env', dd, e1, e2', e3, e4⟩
    · rw [hb] at q; exact q.elim
    rw [e4] at q
    have q : ResS X.K CA H0 H P W D (evSs cl ts (G.put env' i (.lst dd) false)) := q
    have ek := er.keepE
    rw [keepE_all ha] at ek
    refine ⟨env, _, ek, ?_⟩
    rw [e1]
    intro H1 P1 z st r
    rcases r with ⟨e, _⟩ | ⟨_, a, o, rfl, hn, h1, np, ow⟩
    · cases e
    cases ow with
    | @lst _ xs0 rs =>
    cases rs with
    | cons r1 rs =>
    cases rs
    cases r1 with
    | @tup t ys _ sq rs =>
    cases rs with
    | cons r1 rs =>
    cases rs with
    | cons r2 rs =>
    cases rs
    cases r1
    cases r2 with
    | @lst l us _ pl hl ru =>
    cases ru
    have hnl : H l = none := (st.g.2 l pl).elim (fun f => f.elim) id
    have nla : l ≠ a := fun e => np (e ▸ pl)
    have er1 : ER X.K CA H0 H1 P (env.set i none) (σ.set i (some (.ref a))) := (er.stay st.s).less (by rw [List.length_set]) (by rw [List.length_set]) fun j p h => by
      rcases set_get h with ⟨_, e⟩ | ⟨ne, h⟩
      · cases e
      · exact ⟨h, List.getElem?_set_ne ne⟩
    have ha1 : (env.set i none).all shN = true := all_set ha rfl
    refine ⟨env.set i none, P, er1, ?_⟩
    rw [e2']
    intro J H2 P2 st2 src
    have no2 : ∀ {z : Addr} {o : HO}, H z = none → H1 z = some o → ¬ P2 z := fun e e' q => (st2.g.2 _ q).elim (fun q => by
      obtain ⟨o, e2, _⟩ := er.trk _ q
      rw [e] at e2; cases e2) fun q => by rw [e'] at q; cases q
    have hot0 : Hot X.K CA H0 H2 P2 i (σ.set i (some (.ref a))) [] b [] := by
      refine ⟨a, [], t, l, [], ?_, st2.s _ _ h1, no2 hn h1, er.ext.free hn, .nil, (Pers.of_same (P := P) st2.s).sqT sq, st2.s _ _ hl, no2 hnl hl, er.ext.free hnl, nla, .nil, rfl⟩
      rw [List.getElem?_set_self (by rw [← er.len]; exact hlen)]
    refine ⟨fun i' m σ' H' => i' ≤ vs.length ∧ m = vs.length - i' ∧ ∃ env1 P d b ws, PersR H2 P2 H' P ∧ ER X.K CA H0 H' P env1 σ' ∧ env1.all shN = true ∧ (i < env1.length ∧ w < env1.length) ∧ Hot X.K CA H0 H' P i σ' d b ws ∧ trmG w (fun e => evT cl ec e) (fun e => evE cl e2 e) (vs.drop i') env1 d b ws = some (env', dd), ⟨_, Nat.zero_le _, rfl, _, P2, _, _, _, .refl, er1.grow st2, ha1, by rw [List.length_set]; exact ⟨hlen, hlw⟩, hot0, by rw [List.drop_zero]; exact e3⟩, ?_⟩
    rintro i' m σ' H' ⟨hi', rfl, env1, P3, d, b, ws, pr, er3, ha3, hl3, hot, hg⟩
    by_cases hlt : i' < vs.length
    · right
      refine ⟨src.go i' H' P3 pr hlt, fun σ'' H'' => i' + 1 ≤ vs.length ∧ ∃ env1 P d b ws, PersR H2 P2 H'' P ∧ ER X.K CA H0 H'' P env1 σ'' ∧ env1.all shN = true ∧ (i < env1.length ∧ w < env1.length) ∧ Hot X.K CA H0 H'' P i σ'' d b ws ∧ trmG w (fun e => evT cl ec e) (fun e => evE cl e2 e) (vs.drop (i' + 1)) env1 d b ws = some (env', dd), fun σ'' H'' n => ⟨vs.length - (i' + 1), by omega, n.1, rfl, n.2⟩, fun x H4 hy => ?_⟩
      obtain ⟨sm, v, hv', rv⟩ := src.yld i' H' P3 x H4 pr hlt hy
      have st4 : Step P3 H' P3 H4 := ⟨sm, .refl, fun b q => by
        obtain ⟨o, e, m⟩ := er3.trk b q
        exact ⟨o, sm _ _ e, m⟩⟩
      have er4 := (er3.grow st4).put (i := w) rv
      have pr4 := pr.trans st4.persR
      have ed : vs.drop i' = v :: vs.drop (i' + 1) := by
        rw [List.drop_eq_getElem_cons hlt]
        congr 1
        rw [List.getElem?_eq_getElem hlt] at hv'
        exact Option.some.inj hv'
      rw [ed] at hg
      obtain ⟨nv, hg⟩ := trmG_cons hg
      have ha4 : (G.put env1 w v false).all shN = true := all_set ha3 nv
      have hl4 : i < (G.put env1 w v false).length ∧ w < (G.put env1 w v false).length := by unfold G.put; rw [List.length_set]; exact hl3
      have hot4 := (hot.step st4).slot (σ' := σ'.set w (some x)) (List.getElem?_set_ne (fun e => hne e.symm))
      have hw4 : (G.put env1 w v false)[w]? = some (some (v, false)) := by
        unfold G.put
        rw [List.getElem?_set_self hl3.2]
      refine ⟨G.put env1 w v false, P3, er4, ?_⟩
      rcases hg with ⟨k, g1, g2, g3, g4⟩ | ⟨g1, g3, g4⟩
      · rw [g1]
        intro H5 P5 st5
        refine (if_pos rfl).mpr ⟨_, P5, d, b, ws, er4.grow st5, ha4, hot4.step st5, ?_⟩
        rw [g2]
        exact ⟨g3, fun H6 P6 pr6 er6 hot6 => ⟨hlt, _, P6, _, _, _, (pr4.trans st5.persR).trans pr6, er6, ha4, hl4, hot6, g4⟩⟩
      · rw [g1]
        intro H5 P5 st5
        refine (if_neg Bool.false_ne_true).mpr ⟨_, P5, d, b, ws, v, er4.grow st5, ha4, hot4.step st5, hw4, g3, fun H6 P6 pr6 er6 hot6 => ⟨hlt, _, P6, _, _, _, (pr4.trans st5.persR).trans pr6, er6, ha4, hl4, hot6, g4⟩⟩
    · left
      have ei' : i' = vs.length := by omega
      subst ei'
      refine ⟨src.stop H' P3 pr, ?_⟩
      rw [List.drop_length] at hg
      have hg : some (env1, d ++ [.tup [.bl b, .lst ws]]) = some (env', dd) := hg
      cases hg
      obtain ⟨P6, er6, pr6⟩ := hot.done er3 ha3 hl3.1
      have c0 : PersR H P H1 P := ⟨.of_same st.s, fun _ z => z⟩
      exact ⟨_, P6, er6, q.at (((c0.trans st2.persR).trans pr).trans pr6)⟩
end
end G

set_option linter.all false
set_option maxHeartbeats 2000000
set_option maxRecDepth 100000
namespace G
open PySem PySem.Spec PyProof.Rows HT
open L2 hiding Takes XE CX takes_of passes_call ps_raise PMk MkP mk_of pmk_own passAt ps_try_as ps_try_many HdsOk
open L2N (Takes XE CX takes_of passes_call ps_raise PMk MkP mk_of pmk_own passAt)
structure TC where
  fns : List (Str × (Nat × Nat))
  csts : List (Str × Val)
  cls : List (Str × Nat)
  bor : List Nat
  /-- the names of dicts -/
  dts : List Str := []
  /-- the names of dicts whose keys are ints or texts -/
  dks : List Str := []
def visB (sc : Scope) (x : Str) : Bool := match sc.names.lookup x with
  | some .local => true
  | some .cell => true
  | some .free => true
  | _ => false
def locB (sc : Scope) (x : Str) : Bool := match sc.names.lookup x with
  | some .local => true
  | some .cell => true
  | _ => false
def glB (sc : Scope) (x : Str) : Bool := decide (sc.names.lookup x = some .globalImplicit)
def dbgB (x : Str) : Bool := !(x == ("__debug__" : Str)) && !(x == ("__classdict__" : Str))
def bopOf : Operator → Option BOp
  | .Add => some .add
  | .Sub => some .sub
  | .Mult => some .mul
  | .FloorDiv => some .fdiv
  | .Mod => some .mod
  | .Pow => some .pow
  | .BitAnd => some .band
  | .RShift => some .shr
  | _ => none
def copOf : CmpOp → Option COp
  | .Lt => some .lt
  | .LtE => some .le
  | .Gt => some .gt
  | .GtE => some .ge
  | .Eq => some .eq
  | .NotEq => some .ne
  | .Is => some .is
  | .IsNot => some .isnt
  | _ => none
def bfOf (x : Str) (n : Nat) : Option Bf :=
  if x = "len" then some .len else if x = "abs" then some .abs else if x = "int" then some .int else if x = "list" then some .list else if x = "tuple" then some .tuple
  else if x = "max" then (if n = 2 then some .max2 else some .maxL) else if x = "min" then (if n = 2 then some .min2 else some .minL) else if x = "str" then some .str else if x = "all" then some .all else if x = "sorted" then some .srt else none
def bltNames : List Str := ["len", "abs", "int", "list", "tuple", "max", "min", "isinstance", "range", "reversed", "ValueError", "bool", "str", "zip", "set", "sum", "all", "sorted"]
def tyNames : List (Str × String) := [("int", "int"), ("bool", "bool"), ("tuple", "tuple"), ("list", "list"), ("str", "str"), ("ValueError", "ValueError")]
def trL {α β : Type} (f : α → Option β) : List α → Option (List β)
  | [] => some []
  | s :: ss => (f s).bind fun e => (trL f ss).bind fun es => some (e :: es)
def og {α : Type} (b : Bool) (o : Option α) : Option α := if b then o else none
section
variable (T : TC) (N : List Str)
def slot (x : Str) : Option Nat := N.findIdx? (· == x)
def trCl (sc : Scope) : Expr → Option Cl
  | .Name x _ => og (glB sc x && dbgB x) (match T.cls.lookup x with
    | some k => some (.own k)
    | none => (tyNames.lookup x).map .ty)
  | _ => none
def lend : E → E
  | .nm i => .bor i
  | e => e
def trTg (sc : Scope) : Expr → Option Tg
  | .Name x _ => og (locB sc x) ((slot N x).map .one)
  | .Tuple es _ _ => (trL (fun e => match e with | .Name x _ => og (locB sc x) (slot N x) | _ => none) es).map .tup
  | _ => none
def isRev : Expr → Bool
  | .UnaryOp .USub (.Constant (.int 1) _ _) _ => true
  | _ => false
def bools (f : E → E → E) : List E → Option E
  | [] => none
  | [a] => some a
  | a :: b :: r => (bools f (b :: r)).map (f a)
def trIt (tr : Expr → Option E) (ld : Bool) (sc : Scope) (src : Expr) : Option It := match src with
  | .Call (.Name f _) args [] _ => if f = "range" then og (glB sc f) (match args with
      | [a] => (tr a).map fun e => .rng1 (lend e)
      | [a, b] => (tr a).bind fun ea => (tr b).map fun eb => .rng2 (lend ea) (lend eb)
      | _ => none)
    else if f = "reversed" then og (glB sc f) (match args with
      | [a] => (tr a).map fun e => .rvd (if ld then lend e else e)
      | _ => none)
    else if f = "zip" then og (glB sc f) (match args with
      | [a, b] => (tr a).bind fun ea => (tr b).map fun eb => .zip (if ld then lend ea else ea) (if ld then lend eb else eb)
      | _ => none)
    else (tr src).map fun e => .val (if ld then lend e else e)
  | e => (tr e).map fun e => .val (if ld then lend e else e)
def tupB (i : It) : Expr → Bool
  | .Tuple _ _ _ => true
  | _ => !zipI i
def setA : List Expr → Bool
  | [.Call (.Name s _) [_] [] _] => decide (s = "set")
  | _ => false
def fnKs (np : Nat) : List Nat := (T.fns.map (·.2.1)).filter fun k => decide (T.fns.lookup (fnName k) = some (k, np))
def trE : Nat → Bool → Bool → Scope → Expr → Option E
  | 0, _, _, _, _ => none
  | n + 1, c, top, sc, src => match src with
    | .Name x _ => og (dbgB x) (match slot N x with
      | some i => og (visB sc x) (some (.nm i))
      | none => og (glB sc x) (match T.csts.lookup x with
        | some v => some (.cst v)
        | none => match T.fns.lookup x with
          | some (k, _) => og (c && decide (fnName k = x)) (some (.fnv k))
          | none => none))
    | .Constant (.int i) _ _ => some (.cst (.int i))
    | .Constant (.str s) _ _ => some (.cst (.str s))
    | .Constant (.bool b) _ _ => some (.cst (.bl b))
    | .Constant .none _ _ => some (.cst .non)
    | .BinOp a op b _ => (bopOf op).bind fun o => (trE n c top sc a).bind fun ea => (trE n c top sc b).bind fun eb => some (.bin o (lend ea) (lend eb))
    | .UnaryOp .USub a _ => (trE n c top sc a).bind fun ea => some (.neg (lend ea))
    | .UnaryOp .Not a _ => (trE n c top sc a).bind fun ea => some (.not (lend ea))
    | .BoolOp op vs _ => og (decide (2 ≤ vs.length)) ((trL (fun s => (trE n c top sc s).map lend) vs).bind fun es => bools (match op with | .And => .and | .Or => .or) es)
    | .Compare a [.Is] [.Constant .none _ _] _ => (trE n c top sc a).bind fun ea => some (.isn false (lend ea))
    | .Compare a [.IsNot] [.Constant .none _ _] _ => (trE n c top sc a).bind fun ea => some (.isn true (lend ea))
    | .Compare a [.In] [b] _ => (trE n c top sc a).bind fun ea => (trE n c top sc b).bind fun eb => some (.inn false (lend ea) (lend eb))
    | .Compare a [.NotIn] [b] _ => (trE n c top sc a).bind fun ea => (trE n c top sc b).bind fun eb => some (.inn true (lend ea) (lend eb))
    | .Compare a [op] [b] _ => (copOf op).bind fun o => (trE n c top sc a).bind fun ea => (trE n c top sc b).bind fun eb => some (.cmp o (lend ea) (lend eb))
    | .Compare a [op, op'] [b, d] _ => (copOf op).bind fun o => (copOf op').bind fun o' => (trE n c top sc a).bind fun ea => (trE n c top sc b).bind fun eb => (trE n c top sc d).bind fun ed => some (.chn o o' (lend ea) (lend eb) (lend ed))
    | .IfExp d a b _ => (trE n c top sc d).bind fun ed => (trE n c top sc a).bind fun ea => (trE n c top sc b).bind fun eb => some (.ifx (lend ed) ea eb)
    | .Subscript a (.Slice none none (some (.UnaryOp .USub (.Constant (.int 1) _ _) _)) _) _ => (trE n c top sc a).bind fun ea => some (.rev (lend ea))
    | .Subscript a (.Slice lo hi none _) _ => (trE n c top sc a).bind fun ea => (match lo with | none => some none | some l => (trE n c top sc l).map fun e => some (lend e)).bind fun el => (match hi with | none => some none | some l => (trE n c top sc l).map fun e => some (lend e)).bind fun eh => some (.slc (lend ea) el eh)
    | .Subscript a b _ => (trE n c top sc a).bind fun ea => (trE n c top sc b).bind fun eb => some (.ix (lend ea) (lend eb))
    | .Tuple es _ _ => og (lenOk es.length) ((trL (trE n c top sc) es).map .tup)
    | .List es _ => og (lenOk es.length) ((trL (trE n c top sc) es).map .lst)
    | .Call (.Name f _) args [] _ => match slot N f with
      | some i => og (c && visB sc f && dbgB f && !args.isEmpty) ((trL (trE n c top sc) args).map (.cal i (fnKs T args.length)))
      | none => og (glB sc f && dbgB f) (
      if f = "isinstance" then (match args with
        | [a, .Tuple cs _ _] => og (lenOk cs.length) ((trE n c top sc a).bind fun ea => (trL (trCl T sc) cs).bind fun ds => some (.isi (lend ea) ds))
        | [a, b] => (trE n c top sc a).bind fun ea => (trCl T sc b).bind fun d => some (.isi (lend ea) [d])
        | _ => none)
      else if f = "len" ∧ setA args = true then (match args with
        | [.Call (.Name _ _) [a] [] _] => og (c && glB sc "set") ((trE n c top sc a).bind fun ea => some (.ls (lend ea)))
        | _ => none)
      else if f = "sum" ∧ c = false then (match args with
        | [a] => (trE n c top sc a).bind fun ea => some (.sm (lend ea))
        | _ => none)
      else match T.fns.lookup f with
        | some (k, np) => og (c && decide (args.length = np)) ((trL (fun s => (trE n c top sc s).map (if k ∈ T.bor then lend else id)) args).map (.call k))
        | none => og ((c || decide (f = "int")) && !args.isEmpty) ((bfOf f args.length).bind fun bf => (trL (fun s => (trE n c top sc s).map lend) args).map (.blt bf)))
    | .ListComp elt [⟨tgs, it, ifs, 0⟩] scope _ => og (c && top) ((trIt (trE n true true sc) true sc it).bind fun i => og (tupB i tgs) <| (trTg N scope tgs).bind fun tg => (trE n c false scope elt).bind fun el =>
        (match ifs with | [] => some none | [d] => (trE n c false scope d).map fun e => some (lend e) | _ => none).bind fun cond =>
        og (blkC N sc scope ((G.tgs tg).map fun j => (N.getD j Str.empty, j))) (some (.lc tg i cond el)))
    | .Call (.Attribute (.Name x px) m pa) [.Constant (.bool k) _ _] [] pc => og (pa.endLine == pc.line) ((trE n c top sc (.Name x px)).bind fun ea => if m = "count" then some (.blt .cnt [lend ea, .cst (.bl k)]) else if m = "index" then some (.blt .idx [lend ea, .cst (.bl k)]) else none)
    | .Call (.Attribute (.Constant (.str s) _ _) m pa) [a] [] pc => og (pa.endLine == pc.line && decide (m = "join")) ((trE n c top sc a).bind fun ea => some (.jn s (lend ea)))
    | .Call (.Attribute (.Name x px) m pa) [.Constant (.str s) _ _] [] pc => og (pa.endLine == pc.line) ((trE n c top sc (.Name x px)).bind fun ea => if m = "partition" then some (.pt (lend ea) s) else if m = "split" then some (.sp (lend ea) s) else none)
    | .Call (.Attribute (.Name x px) m pa) [a] [] pc => og (pa.endLine == pc.line && decide (m = "get")) ((trE n c top sc (.Name x px)).bind fun ea => (trE n c top sc a).bind fun eb => some (.get (lend ea) (lend eb)))
    | .Call (.Subscript o i p) args [] _ => og (c && !args.isEmpty) ((trE n c top sc (.Subscript o i p)).bind fun ef => (trL (trE n c top sc) args).map (.cax ef (fnKs T args.length)))
    | .Dict keys values _ => og (decide (keys.length = values.length) && decide (keys.length ≤ 15) && keys.all (·.isSome)) ((cstsO keys).bind fun ks => (cstsE values).map fun vs => .dl ks vs)
    | .Call (.Attribute (.Subscript o i p) m pa) [.Constant (.str s) _ _] [] pc => og (pa.endLine == pc.line && decide (m = "split")) ((trE n c top sc (.Subscript o i p)).bind fun ea => some (.sp (lend ea) s))
    | _ => none
def cutSw (ts vs : List Expr) (sc : Scope) : Option (Option (List Str)) :=
  if !(ts.length == 2 || ts.length == 3) || vs.length != ts.length then some none
  else if vs.any (fun | .Starred .. => true | _ => false) then some none
  else
    let line := (ts.head?.map (·.pos.line)).getD 0
    let names := ts.filterMap fun
      | .Name id pos => if sc.names.lookup id == some .local && pos.line == line then some id else none
      | _ => none
    if names.length != ts.length || names.eraseDups.length != names.length then some none
    else if vs.all (foldedForSure 8) then some none
    else if vs.all (constantsAlone 8) then none
    else some (some names)
def swB (sc : Scope) (y : Str) (py p : Pos) (scope : Scope) : Bool :=
  decide (sc.names.lookup y = some .local) && (py.line == p.line) && !(scope.names.any fun (n, k) => n == y && (k == .local || k == .cell))
def isSl : Expr → Bool
  | .Slice _ _ _ _ => true
  | _ => false
def trS : Nat → Bool → Scope → Stmt → Option S
  | 0, _, _, _ => none
  | n + 1, c, sc, src => match src with
    | .Pass _ => some .pass
    | .Return none _ => some .retn
    | .Return (some e) _ => (trE T N n c true sc e).bind fun ea => match ea with
      | .nm i => (match e with
        | .Name x _ => og (decide (slot N x = some i) && visB sc x && dbgB x) (some (.ret (.nm i)))
        | _ => none)
      | .tup [.nm i, .rev (.bor j)] => some (if c then .rett (.tup [.nm i, .rev (.bor j)]) else .ret (.tup [.nm i, .rev (.bor j)]))
      | ea => some (.ret ea)
    | .Assign [.Name y py] (.ListComp elt gs scope p) pos => og (c && (swB sc y py p scope || decide (sc.names.lookup y = some .cell))) ((slot N y).bind fun i => (trE T N n c true sc (.ListComp elt gs scope p)).map (.set i))
    | .Assign [.Name y _] e _ => og (locB sc y && noComp e) (match e with
      | .Subscript (.Call (.Attribute (.Name x _) m pa) [] [] pc) (.Constant (.int k) _ _) _ => og (decide (m = "pop") && (pa.endLine == pc.line) && visB sc x && dbgB x) ((slot N y).bind fun j => (slot N x).map fun i => .popi j i k)
      | .Dict [] [] p => if T.dks.contains y = true then (slot N y).bind fun i => (trE T N n c true sc (.Dict [] [] p)).map (.set i) else (slot N y).map .dnew
      | e => (slot N y).bind fun i => (trE T N n c true sc e).map (.set i))
    | .Assign [.Tuple ts k p] (.Tuple vs k2 p2) _ => og c ((cutSw ts vs sc).bind fun r => match r with
      | none => (trTg N sc (.Tuple ts k p)).bind fun tg => match tg with
        | .tup is => (trE T N n c true sc (.Tuple vs k2 p2)).map (.unp is)
        | _ => none
      | some _ => match ts, vs with
        | [.Name x _, .Name y _], [a, b] => (slot N x).bind fun i => (slot N y).bind fun j => (trE T N n c true sc a).bind fun ea => (trE T N n c true sc b).bind fun eb => og (decide (i ≠ j)) (some (.par i j ea eb))
        | [.Name x _, .Name y _, .Name z _], [a, b, d] => (slot N x).bind fun i => (slot N y).bind fun j => (slot N z).bind fun l => (trE T N n c true sc a).bind fun ea => (trE T N n c true sc b).bind fun eb => (trE T N n c true sc d).bind fun ed => og (decide (i ≠ j) && decide (i ≠ l) && decide (j ≠ l)) (some (.par3 i j l ea eb ed))
        | _, _ => none)
    | .Assign [.Tuple ts k p] (.Call (.Attribute (.Name x _) m pa) [] [] pc) _ => og (c && decide (m = "pop") && (pa.endLine == pc.line) && visB sc x && dbgB x) ((trTg N sc (.Tuple ts k p)).bind fun tg => match tg with
        | .tup is => (slot N x).map (.popu is)
        | _ => none)
    | .Assign [.Tuple ts k p] e _ => og (c && noComp e) ((trTg N sc (.Tuple ts k p)).bind fun tg => match tg with
        | .tup is => (trE T N n c true sc e).map (.unp is)
        | _ => none)
    | .Assign [.Subscript (.Name x _) b _] e _ => og (visB sc x && dbgB x && noComp e && !isSl b) ((slot N x).bind fun i => (trE T N n c true sc b).bind fun eb => (trE T N n c true sc e).map fun ee => if T.dts.contains x = true then .dput i (lend eb) ee else if T.dks.contains x = true then .kput i (lend eb) ee else .six i (lend eb) ee)
    | .Expr (.Call (.Attribute (.Name x _) m pa) args [] pc) _ => og ((pa.endLine == pc.line) && visB sc x && dbgB x) ((slot N x).bind fun i => match args with
        | [] => if m = "pop" then some (.pop i) else if m = "reverse" then some (.rev i) else if m = "clear" then some (.clr i) else none
        | [a] => if m = "append" then (trE T N n c true sc a).map (.app i) else none
        | [a, b] => if m = "insert" then (trE T N n c true sc a).bind fun ea => (trE T N n c true sc b).map fun eb => .ins i (lend ea) eb else none
        | _ => none)
    | .Expr (.Call (.Attribute (.Subscript o b p) m pa) args [] pc) _ => og ((pa.endLine == pc.line)) ((trE T N n c true sc (.Subscript o b p)).bind fun eo => match args with
        | [] => if m = "pop" then some (.mut eo .pop) else if m = "reverse" then (match o, b with
          | .Name x _, .Constant (.int k) _ _ => og (visB sc x && dbgB x) ((slot N x).map fun i => .mut (.ix (.bor i) (.cst (.int k))) .revp)
          | _, _ => some (.mut eo .rev)) else if m = "clear" then some (.mut eo .clr) else none
        | [a] => if m = "append" then (trE T N n c true sc a).map fun ea => .mut eo (.app ea) else none
        | _ => none)
    | .Expr e _ => og (noComp e) ((trE T N n c true sc e).map .exp)
    | .If d a b _ => (trE T N n c true sc d).bind fun ed => (trL (trS n c sc) a).bind fun ea => (trL (trS n c sc) b).map fun eb => .ifs (lend ed) ea eb
    | .While d b [] _ => (trE T N n c true sc d).bind fun ed => (trL (trS n c sc) b).map fun eb => .whl (lend ed) eb
    | .For tgs it b [] _ => og c ((trIt (trE T N n true true sc) false sc it).bind fun i => og (tupB i tgs) <| (trTg N sc tgs).bind fun tg => (trL (trS n c sc) b).map fun eb => .for tg i eb)
    | .Raise (some (.Call (.Name x _) [.Constant (.str _) _ _] [] _)) none _ => og (c && glB sc x && dbgB x) ((T.cls.lookup x).map .rse)
    | .Try b [.ExceptHandler (some (.Name x _)) (some nm) (h₀ :: h) _] [] [] _ => og (c && glB sc x && dbgB x && decide (sc.names.lookup nm = some .local)) ((T.cls.lookup x).bind fun k => (slot N nm).bind fun i => (trL (trS n c sc) b).bind fun eb => (trL (trS n false sc) (h₀ :: h)).map fun eh => .trya eb k i eh)
    | _ => none
def trG (n : Nat) (sc : Scope) (s1 s2 : Stmt) : Option S := match s1, s2 with
  | .Assign [.Name y _] ea _, .For (.Name x _) it [.If cnd [.Expr (.Call (.Attribute (.Name y2 _) m pa) [sg] [] pc) _] [.Expr (.Call (.Attribute (.Subscript (.Subscript (.Name y3 _) mi _) one _) m2 pa2) [.Name x2 _] [] pc2) _] _] [] _ =>
    og (decide (y2 = y) && decide (y3 = y) && decide (x2 = x) && decide (m = "append") && decide (m2 = "append")) <| og ((pa.endLine == pc.line) && (pa2.endLine == pc2.line) && noComp ea) <| og (locB sc y && visB sc y && dbgB y) <| og (locB sc x && visB sc x && dbgB x) <|
    (slot N y).bind fun i => (slot N x).bind fun w => (trE T N n true true sc ea).bind fun el => (trIt (trE T N n true true sc) false sc it).bind fun i2 => (trE T N n true true sc cnd).bind fun ec => (trE T N n true true sc sg).bind fun e2 => (trE T N n true true sc mi).bind fun em => (trE T N n true true sc one).bind fun eo => match i2, em, eo with
      | .val ei, .neg (.cst (.int 1)), .cst (.int 1) => og (!borI (.val ei)) (some (.trm i w el (lend ec) e2 ei))
      | _, _, _ => none
  | _, _ => none
def trD (n : Nat) (sc : Scope) : List Stmt → Option (List S)
  | [s1, s2, s3, s4] => match trG T N n sc s2 s3 with
    | some t => (trS T N n true sc s1).bind fun a => (trS T N n true sc s4).bind fun d => og (!hasMut [a, t, d]) (some [a, t, d])
    | none => trL (trS T N n true sc) [s1, s2, s3, s4]
  | ss => trL (trS T N n true sc) ss
theorem trD_mut {n : Nat} {sc : Scope} {ss : List Stmt} {es : List S} (h : trD T N n sc ss = some es) (hm : hasMut es = true) : trL (trS T N n true sc) ss = some es := by
  unfold trD at h
  split at h
  · split at h
    · cases e1 : trS T N n true sc _ with
      | none => rw [e1] at h; cases h
      | some a =>
        rw [e1] at h
        cases e2 : trS T N n true sc _ with
        | none => rw [e2] at h; cases h
        | some d =>
          rw [e2] at h
          rename_i t _
          have h : (if (!hasMut [a, t, d]) = true then some [a, t, d] else none) = some es := h
          split at h
          · rename_i hn
            cases h
            rw [hm] at hn; cases hn
          · cases h
    · exact h
  · exact h
end
end G

set_option linter.all false
set_option maxHeartbeats 4000000
set_option maxRecDepth 100000
namespace G
open PySem PySem.Spec PyProof.Rows HT
open L2 hiding Takes XE CX takes_of passes_call ps_raise PMk MkP mk_of pmk_own passAt ps_try_as ps_try_many HdsOk
open L2N (Takes XE CX takes_of passes_call ps_raise PMk MkP mk_of pmk_own passAt)
theorem bopOf_ok {o : Operator} {b : BOp} (h : bopOf o = some b) : o = opOf b := by cases o <;> cases h <;> rfl
theorem copOf_ok {o : CmpOp} {b : COp} (h : copOf o = some b) : o = cpOf b := by cases o <;> cases h <;> rfl
theorem bfOf_ok {x : Str} {n : Nat} {f : Bf} (h : bfOf x n = some f) : x = bfN f ∧ bfFn f = true := by
  unfold bfOf at h
  repeat' split at h
  all_goals first | (cases h; exact ⟨by assumption, rfl⟩) | cases h
theorem bfN_mem (f : Bf) : bfN f ∈ bltNames := by cases f <;> decide
theorem bfN_int {f : Bf} (h : bfN f = "int") : f = .int := by
  revert h
  cases f <;> first | exact fun _ => rfl | exact fun h => absurd h (by decide +kernel)
theorem trL_ok {α β : Type} {f : α → Option β} {R : α → β → Prop} (h : ∀ s e, f s = some e → R s e) : ∀ {ss : List α} {es : List β}, trL f ss = some es → Paired R ss es
  | [], _, e => by cases e; exact .nil
  | s :: ss, es, e => by
    obtain ⟨a, h1, e⟩ := Option.bind_eq_some_iff.mp e
    obtain ⟨as, h2, e⟩ := Option.bind_eq_some_iff.mp e
    cases e
    exact .cons (h s a h1) (trL_ok h h2)
theorem og_ok {α : Type} {b : Bool} {o : Option α} {a : α} (h : og b o = some a) : b = true ∧ o = some a := by
  unfold og at h
  split at h
  · exact ⟨by assumption, h⟩
  · cases h
theorem bnd_ok {α β : Type} {o : Option α} {f : α → Option β} {b : β} (h : o.bind f = some b) : ∃ a, o = some a ∧ f a = some b := Option.bind_eq_some_iff.mp h
theorem map_ok' {α β : Type} {o : Option α} {f : α → β} {b : β} (h : o.map f = some b) : ∃ a, o = some a ∧ f a = b := Option.map_eq_some_iff.mp h
theorem slot_ok {N : List Str} {x : Str} {i : Nat} (h : slot N x = some i) : N[i]? = some x := by
  unfold slot at h
  obtain ⟨h1, h2, _⟩ := List.findIdx?_eq_some_iff_getElem.mp h
  rw [List.getElem?_eq_getElem h1, eq_of_beq h2]
theorem dbg_ok {x : Str} (h : dbgB x = true) : (x == ("__debug__" : Str)) = false ∧ (x == ("__classdict__" : Str)) = false := by
  unfold dbgB at h
  simpa using h
structure ScOk (sc sc' : Scope) : Prop where
  loc : ∀ x, sc.names.lookup x = some .local → sc'.names.lookup x = some .local
  cel : ∀ x, sc.names.lookup x = some .cell → sc'.names.lookup x = some .cell
  fre : ∀ x, sc.names.lookup x = some .free → sc'.names.lookup x = some .free ∨ sc'.names.lookup x = some .cell
  glo : ∀ x, sc.names.lookup x = some .globalImplicit → sc'.names.lookup x = some .globalImplicit
theorem ScOk.refl {sc : Scope} : ScOk sc sc := ⟨fun _ h => h, fun _ h => h, fun _ h => .inl h, fun _ h => h⟩
theorem lookup_rel {env : PySem.Env} {x : Str} : ∀ {names : List (Str × NameKind)}, (names.map fun (n, k) => if (k == NameKind.free && env.scope.kind == .function && env.kindOf n == some .cell) then (n, NameKind.cell) else (n, k)).lookup x =
    (names.lookup x).map fun k => if (k == NameKind.free && env.scope.kind == .function && env.kindOf x == some .cell) then NameKind.cell else k
  | [] => rfl
  | (n, k) :: r => by
    have ih := @lookup_rel env x r
    show List.lookup x ((if (k == NameKind.free && env.scope.kind == .function && env.kindOf n == some .cell) = true then (n, NameKind.cell) else (n, k)) :: _) = _
    cases hx : x == n with
    | true =>
      cases eq_of_beq hx
      simp only [List.lookup_cons, beq_self_eq_true, Option.map_some]
      split <;> simp [List.lookup_cons]
    | false =>
      rw [show List.lookup x ((n, k) :: r) = List.lookup x r by simp [List.lookup_cons, hx]]
      split <;> (simp only [List.lookup_cons, hx]; exact ih)
theorem ScOk.rel {sc : Scope} {env : PySem.Env} : ScOk sc (relabel sc env) := by
  have e : ∀ x, (relabel sc env).names.lookup x = (sc.names.lookup x).map fun k => if (k == NameKind.free && env.scope.kind == .function && env.kindOf x == some .cell) then NameKind.cell else k := fun x => lookup_rel
  refine ⟨fun x h => ?_, fun x h => ?_, fun x h => ?_, fun x h => ?_⟩ <;> rw [e, h]
  · rfl
  · rfl
  · simp only [Option.map_some]; split
    · exact .inr rfl
    · exact .inl rfl
  · rfl
section
variable {sc sc' : Scope} {x : Str}
theorem ScOk.vis (h : ScOk sc sc') (b : visB sc x = true) : Vis sc' x := by
  unfold visB at b
  split at b <;> first | cases b | skip
  · exact .inl (h.loc _ (by assumption))
  · exact .inr (.inl (h.cel _ (by assumption)))
  · rename_i e
    rcases h.fre _ e with q | q
    · exact .inr (.inr q)
    · exact .inr (.inl q)
theorem ScOk.lc (h : ScOk sc sc') (b : locB sc x = true) : Loc sc' x := by
  unfold locB at b
  split at b <;> first | cases b | skip
  · exact .inl (h.loc _ (by assumption))
  · exact .inr (h.cel _ (by assumption))
theorem ScOk.gl (h : ScOk sc sc') (b : glB sc x = true) : sc'.names.lookup x = some .globalImplicit := h.glo _ (of_decide_eq_true b)
end
structure GC (T : TC) (N : List Str) (CA : Nat → Option Addr) (cl : Nat → List Val → R (Val × Bool)) (H0 : Bs) (sc : Scope) (c : Bool) (X : Cx) : Prop where
  hot : c = false → HotS H0 X
  hN : X.N = N
  nd : N.Nodup
  so : ScOk sc X.env.scope
  cm : c = true → X.calm = true
  un : X.A.units + 64 < cLine
  dp : X.A.depth + 100 < recursionLimit
  seer : X.base.NoSeer
  tree : X.prog.given.tree = none
  stk : ∃ e l, X.stack = e :: l ∧ e.scope.isGenerator = false ∧ e.scope.isCoroutine = false ∧ e.builtins = builtinsNs ∧ e.globals = mainGlobals
  cf : CFs X.K CA
  fns : c = true → ∀ x k np, T.fns.lookup x = some (k, np) → FnF X CA cl x k np
  csts : ∀ x v, T.csts.lookup x = some v → ∃ u y, X.mg x = some u ∧ RelV y u ∧ ∀ H P, RV X.K CA H P v y
  cls : ∀ x k, T.cls.lookup x = some k → ∃ C, CA k = some C ∧ X.mg x = some (.ref C)
  blt : ∀ x ∈ bltNames, X.mg x = none
  fn : ∀ x, locB sc x = true → X.fn x = true ∨ X.env.scope.names.lookup x = some .local
section
variable {T : TC} {N : List Str} {CA : Nat → Option Addr} {cl : Nat → List Val → R (Val × Bool)} {H0 : Bs} {sc : Scope} {c top : Bool} {X : Cx}
theorem GC.py (g : GC T N CA cl H0 sc c X) : PyR X := fun pins σ H s I => by
  obtain ⟨e, l, h1, h2, h3, h4, h5⟩ := g.stk
  exact PylongRoom.of I.nolimit (by have := g.dp; show _ + 100 < _; exact this) (SeerAt.of (g.seer.keeps I.bk) g.tree (I.ok.frames.trans (by rw [h1])) h2 h3 h4 h5)
structure RE (CA : Nat → Option Addr) (cl : Nat → List Val → R (Val × Bool)) (H0 : Bs) (X : Cx) (src : Expr) (e : E) : Prop where
  ok : okSrc src = true
  v : V3 CA cl H0 X src e
  l : V3 CA cl H0 X src (lend e)
  nb : ∀ i, e ≠ .bor i
theorem lend_nb : ∀ (e : E), (∀ i, e ≠ .nm i) → lend e = e := fun e h => by
  cases e <;> first | rfl | exact absurd rfl (h _)
theorem RE.of {src : Expr} {e : E} (ok : okSrc src = true) (v : V3 CA cl H0 X src e) (hn : ∀ i, e ≠ .nm i) (hb : ∀ i, e ≠ .bor i) : RE CA cl H0 X src e := ⟨ok, v, by rw [lend_nb _ hn]; exact v, hb⟩
theorem trCl_ok (g : GC T N CA cl H0 sc c X) {src : Expr} {d : Cl} (h : trCl T sc src = some d) : okSrc src = true ∧ ClsP CA X src d := by
  unfold trCl at h
  split at h <;> first | cases h | skip
  rename_i x p
  obtain ⟨h1, h⟩ := og_ok h
  rw [Bool.and_eq_true] at h1
  have hg : Gl X x := g.so.gl h1.1
  have hd := (dbg_ok h1.2).1
  refine ⟨rfl, ?_⟩
  split at h
  · rename_i k hk
    cases h
    obtain ⟨C, hC, hm⟩ := g.cls _ _ hk
    exact ⟨.ref C, .ref C, ⟨C, hC, rfl, rfl⟩, pe_glob hg hm rfl hd⟩
  · obtain ⟨t, h2, rfl⟩ := map_ok' h
    have : (x, t) ∈ tyNames := PySem.mem_of_lookup h2
    simp only [tyNames, List.mem_cons, List.not_mem_nil, or_false, Prod.mk.injEq] at this
    rcases this with ⟨rfl, rfl⟩ | ⟨rfl, rfl⟩ | ⟨rfl, rfl⟩ | ⟨rfl, rfl⟩ | ⟨rfl, rfl⟩ | ⟨rfl, rfl⟩
    all_goals exact ⟨.ty _, .type _, ⟨rfl, rfl⟩, pe_bltn hg (g.blt _ (by decide)) (by decide +kernel) rfl (by decide) hd⟩
theorem trTg_ok (g : GC T N CA cl H0 sc c X) {src : Expr} {tg : Tg} (h : trTg N sc src = some tg) : TgP X src tg := by
  unfold trTg at h
  split at h <;> first | cases h | skip
  · obtain ⟨h1, h⟩ := og_ok h
    obtain ⟨i, h2, rfl⟩ := map_ok' h
    exact .one (by rw [g.hN]; exact slot_ok h2) (g.so.lc h1) (g.fn _ h1)
  · obtain ⟨is, h2, rfl⟩ := map_ok' h
    refine .tup (trL_ok (fun s i hs => ?_) h2)
    split at hs <;> first | cases hs | skip
    obtain ⟨h1, hs⟩ := og_ok hs
    exact ⟨_, _, rfl, by rw [g.hN]; exact slot_ok hs, g.so.lc h1, g.fn _ h1⟩
theorem bools_ok {op : BoolOp} {pos : Pos} : ∀ {srcs : List Expr} {es : List E} {e : E}, Vs3 CA cl H0 X srcs es → bools (match op with | .And => E.and | .Or => E.or) es = some e → VB CA cl H0 X op srcs pos e
  | _, _, _, .nil, h => by cases h
  | _, _, _, .cons q .nil, h => by cases h; exact VB.one op q.2
  | _, _, _, .cons q (.cons q2 t), h => by
    obtain ⟨r, h1, rfl⟩ := map_ok' h
    have ih := bools_ok (op := op) (pos := pos) (.cons q2 t) h1
    cases op
    · exact VB.and q.2 ih
    · exact VB.or q.2 ih
theorem and_flag {a b : E} {env : Env} {p : Val × Bool} (h : evE cl (.and a b) env = .ok p) : p.2 = false := by
  unfold evE at h
  obtain ⟨x, _, h⟩ := R.bind_eq_ok h
  obtain ⟨k, _, h⟩ := R.bind_eq_ok h
  split at h
  · obtain ⟨y, _, h⟩ := R.bind_eq_ok h
    obtain ⟨k', _, h⟩ := R.bind_eq_ok h
    cases h; rfl
  · cases h; rfl
theorem or_flag {a b : E} {env : Env} {p : Val × Bool} (h : evE cl (.or a b) env = .ok p) : p.2 = false := by
  unfold evE at h
  obtain ⟨x, _, h⟩ := R.bind_eq_ok h
  obtain ⟨k, _, h⟩ := R.bind_eq_ok h
  split at h
  · cases h; rfl
  · obtain ⟨y, _, h⟩ := R.bind_eq_ok h
    obtain ⟨k', _, h⟩ := R.bind_eq_ok h
    cases h; rfl
theorem bools_re {op : BoolOp} {pos : Pos} {srcs : List Expr} {es : List E} {e : E} (hv : Vs3 CA cl H0 X srcs es) (hl : 2 ≤ srcs.length) (h : bools (match op with | .And => E.and | .Or => E.or) es = some e) : RE CA cl H0 X (.BoolOp op srcs pos) e := by
  have vb := bools_ok (op := op) (pos := pos) hv h
  have : ∃ a b, e = (match op with | .And => E.and | .Or => E.or) a b := by
    match hv with
    | .nil => cases h
    | .cons _ .nil => exact absurd hl (by simp)
    | .cons q (.cons q2 t) =>
      obtain ⟨r, _, rfl⟩ := map_ok' h
      exact ⟨_, _, rfl⟩
  obtain ⟨a, b, rfl⟩ := this
  cases op
  · exact .of rfl (VB.v3 (by intro i z; cases z) vb fun _ _ e => and_flag e) (by intro i z; cases z) (by intro i z; cases z)
  · exact .of rfl (VB.v3 (by intro i z; cases z) vb fun _ _ e => or_flag e) (by intro i z; cases z) (by intro i z; cases z)
theorem tupB_ok {i : It} {tg : Expr} (h : tupB i tg = true) : TupS i tg := fun z => by
  unfold tupB at h
  split at h
  · exact ⟨_, _, _, rfl⟩
  · rw [z] at h; cases h
theorem trIt_ok (g : GC T N CA cl H0 sc c X) {tr : Expr → Option E} (htr : ∀ s e, tr s = some e → RE CA cl H0 X s e) {ld : Bool} {src : Expr} {it : It} (h : trIt tr ld sc src = some it) : VI CA cl H0 X src it := by
  have val : ∀ s : Expr, (tr s).map (fun e => It.val (if ld then lend e else e)) = some it → VI CA cl H0 X s it := fun s h => by
    obtain ⟨e, h1, rfl⟩ := map_ok' h
    have r := htr _ _ h1
    cases ld
    · exact vi_val r.ok r.v
    · exact vi_val r.ok r.l
  unfold trIt at h
  split at h
  · rename_i f fp args ap
    split at h
    · rename_i ef
      have hg : Gl X f := g.so.gl (og_ok h).1
      replace h := (og_ok h).2
      subst ef
      split at h <;> first | cases h | skip
      · obtain ⟨e, h1, rfl⟩ := map_ok' h
        have r := htr _ _ h1
        exact vi_rng1 hg (g.blt _ (by decide)) r.ok r.l
      · obtain ⟨ea, h1, h⟩ := bnd_ok h
        obtain ⟨eb, h2, rfl⟩ := map_ok' h
        have r := htr _ _ h1
        have r2 := htr _ _ h2
        exact vi_rng2 hg (g.blt _ (by decide)) r.ok r2.ok r.l r2.l
    · split at h
      · rename_i ef
        have hg : Gl X f := g.so.gl (og_ok h).1
        replace h := (og_ok h).2
        subst ef
        split at h <;> first | cases h | skip
        obtain ⟨e, h1, rfl⟩ := map_ok' h
        have r := htr _ _ h1
        cases ld
        · exact vi_rvd hg (g.blt _ (by decide)) r.ok r.v
        · exact vi_rvd hg (g.blt _ (by decide)) r.ok r.l
      · split at h
        · rename_i ef
          have hg : Gl X f := g.so.gl (og_ok h).1
          replace h := (og_ok h).2
          subst ef
          split at h <;> first | cases h | skip
          obtain ⟨ea, h1, h⟩ := bnd_ok h
          obtain ⟨eb, h2, rfl⟩ := map_ok' h
          have r := htr _ _ h1
          have r2 := htr _ _ h2
          cases ld
          · exact vi_zip hg (g.blt _ (by decide)) r.ok r2.ok r.v r2.v r.v
          · exact vi_zip hg (g.blt _ (by decide)) r.ok r2.ok r.l r2.l r.l
        · exact val _ h
  · exact val _ h
end
end G

set_option linter.all false
set_option maxHeartbeats 8000000
set_option maxRecDepth 100000
namespace G
open PySem PySem.Spec PyProof.Rows HT
open L2 hiding Takes XE CX takes_of passes_call ps_raise PMk MkP mk_of pmk_own passAt ps_try_as ps_try_many HdsOk
open L2N (Takes XE CX takes_of passes_call ps_raise PMk MkP mk_of pmk_own passAt)
section
variable {T : TC} {N : List Str} {CA : Nat → Option Addr} {cl : Nat → List Val → R (Val × Bool)} {H0 : Bs}
theorem GC.blk {sc : Scope} {c : Bool} {X : Cx} (g : GC T N CA cl H0 sc c X) (scope : Scope) (s : Shared) (H : Hp) (C : Addr) (cl' : List (Str × Addr)) (fp : List Addr) : GC T N CA cl H0 scope c (X.blk s H scope (compEnvC scope cl' C X.env) fp) where
  hot := g.hot
  hN := g.hN
  nd := g.nd
  so := .rel
  cm := g.cm
  un := g.un
  dp := g.dp
  seer := g.seer
  tree := g.tree
  stk := g.stk
  cf := g.cf
  fns := fun hc x k np h => ⟨(g.fns hc x k np h).ns, (g.fns hc x k np h).ex⟩
  csts := g.csts
  cls := g.cls
  blt := g.blt
  fn := fun x h => by
    unfold locB at h
    split at h <;> first | cases h | skip
    · exact .inr (ScOk.rel.loc _ (by assumption))
    · rename_i e
      exact .inl (by show (scope.names.lookup x == some .cell) = true; rw [e]; rfl)
theorem GC.blkOk {sc : Scope} {c : Bool} {X : Cx} (g : GC T N CA cl H0 sc c X) {scope : Scope} {own : List (Str × Nat)} (h : blkC N sc scope own = true) : BlkOk X.N X.env.scope scope own := by
  have b := blkOk_by h
  refine ⟨b.kind, b.uniq, by rw [g.hN]; exact b.ix, fun y hy e => ?_, by rw [g.hN]; exact b.own⟩
  rcases b.free y hy e with q | q
  · exact .inl (g.so.cel _ q)
  · rcases g.so.fre _ q with q | q
    · exact .inr q
    · exact .inl q
def TE_ok (T : TC) (N : List Str) (CA : Nat → Option Addr) (cl : Nat → List Val → R (Val × Bool)) (H0 : Bs) (n : Nat) : Prop := ∀ c top sc (X : Cx), GC T N CA cl H0 sc c X → ∀ src e, trE T N n c top sc src = some e → RE CA cl H0 X src e
theorem lc_ok {n : Nat} {sc scope : Scope} {X : Cx} (g : GC T N CA cl H0 sc true X) (ih : TE_ok T N CA cl H0 n) {elt tgs it : Expr} {ifs : List Expr} {i : It} {tg : Tg} {el : E} {cond : Option E} {p : Pos} (h2 : trIt (trE T N n true true sc) true sc it = some i) (hzb : tupB i tgs = true) (h3 : trTg N scope tgs = some tg) (h4 : trE T N n true false scope elt = some el)
    (h5 : (match ifs with | [] => some none | [d] => (trE T N n true false scope d).map fun e => some (lend e) | _ => none) = some cond) (h6 : blkC N sc scope ((G.tgs tg).map fun j => (N.getD j Str.empty, j)) = true) :
    (VI CA cl H0 X it i ∧ BlkOk X.N X.env.scope scope ((G.tgs tg).map fun j => (N.getD j Str.empty, j)) ∧ ((G.tgs tg).map fun j => (N.getD j Str.empty, j)).map (·.2) = G.tgs tg ∧
    (∀ (s : Shared) (H : Hp) (C : Addr) (cl : List (Str × Addr)) (fp : List Addr), TgP (X.blk s H scope (compEnvC scope cl C X.env) fp) tgs tg) ∧
    (∀ (s : Shared) (H : Hp) (C : Addr) (cl' : List (Str × Addr)) (fp : List Addr), PTsOk CA cl H0 (X.blk s H scope (compEnvC scope cl' C X.env) fp) ifs cond) ∧
    (∀ (s : Shared) (H : Hp) (C : Addr) (cl' : List (Str × Addr)) (fp : List Addr), V3 CA cl H0 (X.blk s H scope (compEnvC scope cl' C X.env) fp) elt el)) ∧
    V3 CA cl H0 X (.ListComp elt [⟨tgs, it, ifs, 0⟩] scope p) (.lc tg i cond el) := by
  have a1 := trIt_ok g (ih true true sc X g) h2
  have a2 := g.blkOk h6
  have a3 : ((G.tgs tg).map fun j => (N.getD j Str.empty, j)).map (·.2) = G.tgs tg := by rw [List.map_map]; exact List.map_id _
  have a4 : ∀ (s : Shared) (H : Hp) (C : Addr) (cl : List (Str × Addr)) (fp : List Addr), TgP (X.blk s H scope (compEnvC scope cl C X.env) fp) tgs tg := fun s H C cl' fp => trTg_ok (g.blk scope s H C cl' fp) h3
  have a5 : ∀ (s : Shared) (H : Hp) (C : Addr) (cl' : List (Str × Addr)) (fp : List Addr), PTsOk CA cl H0 (X.blk s H scope (compEnvC scope cl' C X.env) fp) ifs cond := fun s H C cl' fp => by
    split at h5
    · cases h5; trivial
    · obtain ⟨e, h7, rfl⟩ := map_ok' h5
      exact (ih true false scope _ (g.blk scope s H C cl' fp) _ _ h7).l
    · cases h5
  have a6 : ∀ (s : Shared) (H : Hp) (C : Addr) (cl' : List (Str × Addr)) (fp : List Addr), V3 CA cl H0 (X.blk s H scope (compEnvC scope cl' C X.env) fp) elt el := fun s H C cl' fp => (ih true false scope _ (g.blk scope s H C cl' fp) _ _ h4).v
  exact ⟨⟨a1, a2, a3, a4, a5, a6⟩, (v3_lc (g.cm rfl) (by rw [g.hN]; exact g.nd) a1 (tupB_ok hzb) a2 a3 a4 a5 a6).2⟩
theorem trE_ok : ∀ n, TE_ok T N CA cl H0 n
  | 0 => fun c top sc X g src e h => by unfold trE at h; cases h
  | n + 1 => fun c top sc X g src e h => by
    have ih := trE_ok n
    have ih1 : ∀ s t, trE T N n c top sc s = some t → RE CA cl H0 X s t := fun s t => ih c top sc X g s t
    have ihE : ∀ {ss es}, trL (trE T N n c top sc) ss = some es → Vs3 CA cl H0 X ss es := fun h => trL_ok (fun s t hs => ⟨(ih1 _ _ hs).ok, (ih1 _ _ hs).v⟩) h
    have ihA : ∀ {ss es}, trL (fun s => (trE T N n c top sc s).map lend) ss = some es → Vs3 CA cl H0 X ss es := fun h => trL_ok (fun s t hs => by
      obtain ⟨e, h1, rfl⟩ := map_ok' hs
      exact ⟨(ih1 _ _ h1).ok, (ih1 _ _ h1).l⟩) h
    have len : ∀ {α β : Type} {R : α → β → Prop} {l : List α} {l' : List β}, Paired R l l' → l.length = l'.length := fun p => by
      induction p with
      | nil => rfl
      | cons _ _ ih => simp [ih]
    unfold trE at h
    split at h
    all_goals first | cases h | skip
    case h_1 x p =>
      obtain ⟨hd, h⟩ := og_ok h
      obtain ⟨hd1, hd2⟩ := dbg_ok hd
      split at h
      · rename_i i hi
        obtain ⟨hv, h⟩ := og_ok h
        cases h
        have hi : X.N[i]? = some x := by rw [g.hN]; exact slot_ok hi
        exact ⟨rfl, v3_nm hi (g.so.vis hv) hd1 hd2, v3_bor hi (g.so.vis hv) hd1 hd2, by intro i z; cases z⟩
      · obtain ⟨hg, h⟩ := og_ok h
        split at h
        · rename_i v h1
          cases h
          obtain ⟨u, y, hm, r, rv⟩ := g.csts _ _ h1
          exact .of rfl (v3_cst rfl (pe_glob (g.so.gl hg) hm r hd1) rv) (by intro i z; cases z) (by intro i z; cases z)
        · split at h
          · rename_i k np hf
            obtain ⟨h1, h⟩ := og_ok h
            rw [Bool.and_eq_true, decide_eq_true_iff] at h1
            cases h
            exact .of rfl (v3_fnv (g.fns h1.1 _ _ _ hf) h1.2 (g.so.gl hg) hd1) (by intro i z; cases z) (by intro i z; cases z)
          · cases h
    case h_2 => exact .of rfl (v3_cst rfl pe_int fun _ _ => .int _) (by intro i z; cases z) (by intro i z; cases z)
    case h_3 => exact .of rfl (v3_cst rfl pe_str fun _ _ => .str _) (by intro i z; cases z) (by intro i z; cases z)
    case h_4 => exact .of rfl (v3_cst rfl pe_bl fun _ _ => .bl _) (by intro i z; cases z) (by intro i z; cases z)
    case h_5 => exact .of rfl (v3_cst rfl pe_non fun _ _ => .non) (by intro i z; cases z) (by intro i z; cases z)
    case h_6 a op b p =>
      obtain ⟨o, h1, h⟩ := bnd_ok h
      obtain ⟨ea, h2, h⟩ := bnd_ok h
      obtain ⟨eb, h3, h⟩ := bnd_ok h
      cases h
      cases bopOf_ok h1
      exact .of rfl (v3_bin g.py o (ih1 _ _ h2).l (ih1 _ _ h3).l) (by intro i z; cases z) (by intro i z; cases z)
    case h_7 a p =>
      obtain ⟨ea, h2, h⟩ := bnd_ok h
      cases h
      exact .of rfl (v3_neg (ih1 _ _ h2).l) (by intro i z; cases z) (by intro i z; cases z)
    case h_8 a p =>
      obtain ⟨ea, h2, h⟩ := bnd_ok h
      cases h
      exact .of rfl (v3_not (ih1 _ _ h2).l) (by intro i z; cases z) (by intro i z; cases z)
    case h_9 op vs p =>
      obtain ⟨h1, h⟩ := og_ok h
      obtain ⟨es, h2, h⟩ := bnd_ok h
      exact bools_re (ihA h2) (of_decide_eq_true h1) h
    case h_10 a k p1 p =>
      obtain ⟨ea, h2, h⟩ := bnd_ok h
      cases h
      exact .of rfl (v3_isn false (ih1 _ _ h2).l) (by intro i z; cases z) (by intro i z; cases z)
    case h_11 a k p1 p =>
      obtain ⟨ea, h2, h⟩ := bnd_ok h
      cases h
      exact .of rfl (v3_isn true (ih1 _ _ h2).l) (by intro i z; cases z) (by intro i z; cases z)
    case h_12 a b p =>
      obtain ⟨ea, h2, h⟩ := bnd_ok h
      obtain ⟨eb, h3, h⟩ := bnd_ok h
      cases h
      exact .of rfl (v3_inn g.un false (ih1 _ _ h3).ok (ih1 _ _ h2).l (ih1 _ _ h3).l) (by intro i z; cases z) (by intro i z; cases z)
    case h_13 a b p =>
      obtain ⟨ea, h2, h⟩ := bnd_ok h
      obtain ⟨eb, h3, h⟩ := bnd_ok h
      cases h
      exact .of rfl (v3_inn g.un true (ih1 _ _ h3).ok (ih1 _ _ h2).l (ih1 _ _ h3).l) (by intro i z; cases z) (by intro i z; cases z)
    case h_14 a op b p _ _ _ _ =>
      obtain ⟨o, h1, h⟩ := bnd_ok h
      obtain ⟨ea, h2, h⟩ := bnd_ok h
      obtain ⟨eb, h3, h⟩ := bnd_ok h
      cases h
      cases copOf_ok h1
      exact .of rfl (v3_cmp g.un o (ih1 _ _ h2).l (ih1 _ _ h3).l) (by intro i z; cases z) (by intro i z; cases z)
    case h_15 a op op' b d p =>
      obtain ⟨o, h1, h⟩ := bnd_ok h
      obtain ⟨o', h1', h⟩ := bnd_ok h
      obtain ⟨ea, h2, h⟩ := bnd_ok h
      obtain ⟨eb, h3, h⟩ := bnd_ok h
      obtain ⟨ed, h4, h⟩ := bnd_ok h
      cases h
      cases copOf_ok h1
      cases copOf_ok h1'
      exact .of rfl (v3_chn g.un o o' (show behindInMarks _ d = false from okSrc.bm (ih1 _ _ h4).ok _) (ih1 _ _ h2).l (ih1 _ _ h3).l (ih1 _ _ h4).l) (by intro i z; cases z) (by intro i z; cases z)
    case h_16 d a b p =>
      obtain ⟨ed, h2, h⟩ := bnd_ok h
      obtain ⟨ea, h3, h⟩ := bnd_ok h
      obtain ⟨eb, h4, h⟩ := bnd_ok h
      cases h
      exact .of rfl (v3_ifx (ih1 _ _ h3).nb (ih1 _ _ h4).nb (ih1 _ _ h2).l (ih1 _ _ h3).v (ih1 _ _ h4).v) (by intro i z; cases z) (by intro i z; cases z)
    case h_17 a k p1 p2 p3 p =>
      obtain ⟨ea, h2, h⟩ := bnd_ok h
      cases h
      exact .of rfl (v3_rev (ih1 _ _ h2).l) (by intro i z; cases z) (by intro i z; cases z)
    case h_18 a lo hi p1 p =>
      obtain ⟨ea, h2, h⟩ := bnd_ok h
      obtain ⟨el, h3, h⟩ := bnd_ok h
      obtain ⟨eh, h4, h⟩ := bnd_ok h
      cases h
      have part : ∀ {o : Option Expr} {eo : Option E}, (match o with | none => some none | some l => (trE T N n c top sc l).map fun e => some (lend e)) = some eo → ∀ W, Takes X W → PO X o (tP X.K CA cl H0 W eo) := fun {o eo} h W tk => by
        cases o with
        | none => cases h; exact po_no
        | some l =>
          obtain ⟨e, h1, rfl⟩ := map_ok' h
          exact po_so tk (ih1 _ _ h1).l
      exact .of rfl (v3_slc (ih1 _ _ h2).l (part h3) (part h4)) (by intro i z; cases z) (by intro i z; cases z)
    case h_19 a b p _ _ =>
      obtain ⟨ea, h2, h⟩ := bnd_ok h
      obtain ⟨eb, h3, h⟩ := bnd_ok h
      cases h
      exact .of rfl (v3_ix g.un (ih1 _ _ h3).ok (ih1 _ _ h2).l (ih1 _ _ h3).l) (by intro i z; cases z) (by intro i z; cases z)
    case h_20 es k p =>
      obtain ⟨h1, h⟩ := og_ok h
      obtain ⟨ts, h2, rfl⟩ := map_ok' h
      exact .of rfl (v3_tup h1 (ihE h2)) (by intro i z; cases z) (by intro i z; cases z)
    case h_21 es p =>
      obtain ⟨h1, h⟩ := og_ok h
      obtain ⟨ts, h2, rfl⟩ := map_ok' h
      exact .of rfl (v3_lst h1 (ihE h2)) (by intro i z; cases z) (by intro i z; cases z)
    case h_22 f p1 args p =>
      split at h
      · rename_i i hi
        obtain ⟨h1, h⟩ := og_ok h
        simp only [Bool.and_eq_true, Bool.not_eq_true'] at h1
        obtain ⟨⟨⟨hc, hv⟩, hd⟩, hne⟩ := h1
        obtain ⟨es, h2, rfl⟩ := map_ok' h
        obtain ⟨hd1, hd2⟩ := dbg_ok hd
        refine .of rfl (v3_cal (np := args.length) (fun k hk => ?_) (by rintro rfl; cases hne) rfl (by rw [g.hN]; exact slot_ok hi) (g.so.vis hv) hd1 hd2 (ihE h2)) (by intro i z; cases z) (by intro i z; cases z)
        have hk2 := (List.mem_filter.mp hk).2
        exact g.fns hc _ _ _ (of_decide_eq_true hk2)
      have h1 := (og_ok h).1
      replace h := (og_ok h).2
      rw [Bool.and_eq_true] at h1
      have hg : Gl X f := g.so.gl h1.1
      have hd := (dbg_ok h1.2).1
      split at h
      · rename_i ef
        subst ef
        have hm := g.blt "isinstance" (by decide)
        split at h
        · obtain ⟨hl, h⟩ := og_ok h
          obtain ⟨ea, h2, h⟩ := bnd_ok h
          obtain ⟨ds, h3, h⟩ := bnd_ok h
          cases h
          exact .of rfl (v3_isA g.cf hg hm (ih1 _ _ h2).ok hl (ih1 _ _ h2).l (trL_ok (R := fun s d => okSrc s = true ∧ ClsP CA X s d) (fun s d hs => trCl_ok g hs) h3)) (by intro i z; cases z) (by intro i z; cases z)
        · obtain ⟨ea, h2, h⟩ := bnd_ok h
          obtain ⟨d, h3, h⟩ := bnd_ok h
          cases h
          exact .of rfl (v3_is1 g.cf hg hm (ih1 _ _ h2).ok (trCl_ok g h3).1 (ih1 _ _ h2).l (trCl_ok g h3).2) (by intro i z; cases z) (by intro i z; cases z)
        · cases h
      split at h
      · rename_i el
        obtain ⟨ef, hset⟩ := el
        subst ef
        split at h
        · obtain ⟨h2, h⟩ := og_ok h
          rw [Bool.and_eq_true] at h2
          obtain ⟨ea, h3, h⟩ := bnd_ok h
          cases h
          have es := of_decide_eq_true hset
          subst es
          exact .of rfl (v3_ls (g.cm h2.1) g.un hg (g.blt "len" (by decide)) (g.so.gl h2.2) (g.blt "set" (by decide)) (ih1 _ _ h3).ok (ih1 _ _ h3).l) (by intro i z; cases z) (by intro i z; cases z)
        · cases h
      split at h
      · rename_i es
        obtain ⟨ef, hc0⟩ := es
        subst ef
        subst hc0
        split at h
        · obtain ⟨ea, h3, h⟩ := bnd_ok h
          cases h
          exact .of rfl (v3_sm (g.hot rfl) hg (g.blt "sum" (by decide)) (ih1 _ _ h3).ok (ih1 _ _ h3).l) (by intro i z; cases z) (by intro i z; cases z)
        · cases h
      · split at h
        · rename_i k np hf
          obtain ⟨h2, h⟩ := og_ok h
          rw [Bool.and_eq_true] at h2
          obtain ⟨es, h3, rfl⟩ := map_ok' h
          refine .of rfl (v3_call (g.fns h2.1 _ _ _ hf) (of_decide_eq_true h2.2) hg hd (trL_ok (fun s t hs => ?_) h3)) (by intro i z; cases z) (by intro i z; cases z)
          obtain ⟨e, h4, rfl⟩ := map_ok' hs
          refine ⟨(ih1 _ _ h4).ok, ?_⟩
          split
          · exact (ih1 _ _ h4).l
          · exact (ih1 _ _ h4).v
        · obtain ⟨h2, h⟩ := og_ok h
          rw [Bool.and_eq_true] at h2
          obtain ⟨bf, h3, h⟩ := bnd_ok h
          obtain ⟨es, h4, rfl⟩ := map_ok' h
          obtain ⟨ef, hfn⟩ := bfOf_ok h3
          cases ef
          refine .of rfl (v3_blt ((Bool.or_eq_true .. ▸ h2.1 : c = true ∨ decide (bfN bf = "int") = true).imp (fun z => g.cm z) fun z => bfN_int (of_decide_eq_true z)) hfn hg (g.blt _ (bfN_mem bf)) (ihA h4) ?_) (by intro i z; cases z) (by intro i z; cases z)
          rintro rfl
          exact absurd h2.2 (by decide)
    case h_23 elt tgs it ifs scope p =>
      obtain ⟨h1, h⟩ := og_ok h
      rw [Bool.and_eq_true] at h1
      obtain ⟨i, h2, h⟩ := bnd_ok h
      obtain ⟨hzb, h⟩ := og_ok h
      obtain ⟨tg, h3, h⟩ := bnd_ok h
      obtain ⟨el, h4, h⟩ := bnd_ok h
      obtain ⟨cond, h5, h⟩ := bnd_ok h
      obtain ⟨h6, h⟩ := og_ok h
      cases h
      obtain ⟨rfl, rfl⟩ := h1
      exact .of rfl (lc_ok g ih h2 hzb h3 h4 h5 h6).2 (by intro i z; cases z) (by intro i z; cases z)
    case h_24 x px m pa k n1 p1 pc =>
      obtain ⟨h1, h⟩ := og_ok h
      obtain ⟨ea, h2, h⟩ := bnd_ok h
      split at h
      · rename_i em
        cases h; subst em
        exact .of rfl (v3_mt (f := .cnt) g.un rfl h1 rfl (ih1 _ _ h2).l) (by intro i z; cases z) (by intro i z; cases z)
      · split at h
        · rename_i em
          cases h; subst em
          exact .of rfl (v3_mt (f := .idx) g.un rfl h1 rfl (ih1 _ _ h2).l) (by intro i z; cases z) (by intro i z; cases z)
        · cases h
    case h_25 s n1 p1 m pa a pc =>
      obtain ⟨g1, g2⟩ := og_ok h
      rw [Bool.and_eq_true, decide_eq_true_iff] at g1
      obtain ⟨ea, h2, g3⟩ := bnd_ok g2
      obtain ⟨h1, em⟩ := g1
      cases g3
      subst em
      exact .of rfl (v3_jn h1 (ih1 _ _ h2).ok (ih1 _ _ h2).l) (by intro i z; cases z) (by intro i z; cases z)
    case h_26 x px m pa s n1 p1 pc =>
      obtain ⟨h1, g2⟩ := og_ok h
      obtain ⟨ea, h2, g3⟩ := bnd_ok g2
      split at g3
      · rename_i em
        cases g3
        subst em
        exact .of rfl (v3_pt h1 rfl (ih1 _ _ h2).l) (by intro i z; cases z) (by intro i z; cases z)
      · split at g3
        · rename_i em
          cases g3
          subst em
          exact .of rfl (v3_sp h1 rfl (ih1 _ _ h2).l) (by intro i z; cases z) (by intro i z; cases z)
        · cases g3
    case h_27 x px m pa a pc _ _ =>
      obtain ⟨g1, g2⟩ := og_ok h
      rw [Bool.and_eq_true, decide_eq_true_iff] at g1
      obtain ⟨ea, h2, g3⟩ := bnd_ok g2
      obtain ⟨eb, h3, g4⟩ := bnd_ok g3
      obtain ⟨h1, em⟩ := g1
      cases g4
      subst em
      exact .of rfl (v3_get g.un h1 rfl (ih1 _ _ h3).ok (ih1 _ _ h2).l (ih1 _ _ h3).l) (by intro i z; cases z) (by intro i z; cases z)
    case h_28 o i p args p2 =>
      obtain ⟨h1, h⟩ := og_ok h
      rw [Bool.and_eq_true, Bool.not_eq_true'] at h1
      obtain ⟨hc, hne⟩ := h1
      obtain ⟨ef, h2, h⟩ := bnd_ok h
      obtain ⟨es, h3, rfl⟩ := map_ok' h
      refine .of rfl (v3_cax (np := args.length) (fun k hk => ?_) (by rintro rfl; cases hne) rfl (ih1 _ _ h2).v (ihE h3)) (by intro i z; cases z) (by intro i z; cases z)
      have hk2 := (List.mem_filter.mp hk).2
      exact g.fns hc _ _ _ (of_decide_eq_true hk2)
    case h_29 keys values p =>
      obtain ⟨h1, h⟩ := og_ok h
      rw [Bool.and_eq_true, Bool.and_eq_true, decide_eq_true_iff, decide_eq_true_iff] at h1
      obtain ⟨⟨hl, h15⟩, hall⟩ := h1
      obtain ⟨ks, h2, h⟩ := bnd_ok h
      obtain ⟨vs, h3, rfl⟩ := map_ok' h
      exact .of rfl (v3_dl h2 h3 hl h15 hall) (by intro i z; cases z) (by intro i z; cases z)
    case h_30 o i p m pa s n1 p1 pc =>
      obtain ⟨g1, g2⟩ := og_ok h
      rw [Bool.and_eq_true, decide_eq_true_iff] at g1
      obtain ⟨ea, h2, g3⟩ := bnd_ok g2
      obtain ⟨h1, em⟩ := g1
      cases g3
      subst em
      exact .of rfl (v3_sp h1 rfl (ih1 _ _ h2).l) (by intro i z; cases z) (by intro i z; cases z)
end
end G

set_option linter.all false
set_option maxHeartbeats 8000000
set_option maxRecDepth 100000
namespace G
open PySem PySem.Spec PyProof.Rows HT
open L2 hiding Takes XE CX takes_of passes_call ps_raise PMk MkP mk_of pmk_own passAt ps_try_as ps_try_many HdsOk
open L2N (Takes XE CX takes_of passes_call ps_raise PMk MkP mk_of pmk_own passAt)
structure GS (T : TC) (N : List Str) (CA : Nat → Option Addr) (cl : Nat → List Val → R (Val × Bool)) (H0 : Bs) (sc : Scope) (c : Bool) (X : Cx) : Prop where
  g : GC T N CA cl H0 sc c X
  sce : X.env.scope = sc
  kind : sc.kind = .function
  stk : X.stack = X.env :: X.outer
  fr : X.env.frame = some X.env.locals
  ex : X.ex = []
  hp : PassesOwn (model X.prog X.w) X.A X.env X.xe
section
variable {T : TC} {N : List Str} {CA : Nat → Option Addr} {cl : Nat → List Val → R (Val × Bool)} {H0 : Bs} {sc : Scope} {c : Bool} {X : Cx}
theorem GC.tr (g : GC T N CA cl H0 sc c X) (pn : List (Addr × Obj)) (xe : Value → Shared → Prop) : GC T N CA cl H0 sc c (X.tr pn xe) :=
  ⟨g.hot, g.hN, g.nd, g.so, g.cm, g.un, g.dp, g.seer, g.tree, g.stk, g.cf, fun hc x k np h => ⟨(g.fns hc x k np h).ns, (g.fns hc x k np h).ex⟩, g.csts, g.cls, g.blt, g.fn⟩
theorem GC.suite {H1 : Bs} (g : GC T N CA cl H0 sc c X) (a : Addr) (pn : List (Addr × Obj)) (hot : HotS H1 (X.suite a pn)) : GC T N CA cl H1 sc false (X.suite a pn) :=
  ⟨fun _ => hot, g.hN, g.nd, g.so, fun z => absurd z Bool.false_ne_true, g.un, g.dp, g.seer, g.tree, g.stk, g.cf, fun z => absurd z Bool.false_ne_true, g.csts, g.cls, g.blt, g.fn⟩
theorem GS.tr (s : GS T N CA cl H0 sc c X) (pn : List (Addr × Obj)) (xe : Value → Shared → Prop) (hp : PassesOwn (model X.prog X.w) X.A X.env xe) : GS T N CA cl H0 sc c (X.tr pn xe) :=
  ⟨s.g.tr pn xe, s.sce, s.kind, s.stk, s.fr, s.ex, hp⟩
theorem GS.suite {H1 : Bs} (s : GS T N CA cl H0 sc c X) (a : Addr) (pn : List (Addr × Obj)) (hot : HotS H1 (X.suite a pn)) : GS T N CA cl H1 sc false (X.suite a pn) :=
  ⟨s.g.suite a pn hot, s.sce, s.kind, s.stk, s.fr, s.ex, PassesOwn.never⟩
theorem GS.bk (s : GS T N CA cl H0 sc c X) : X.env.blockKind = .function := by
  have : X.env.scope.kind = .function := by rw [s.sce]; exact s.kind
  show (if X.env.scope.kind.isAnnotationScope then ScopeKind.function else X.env.scope.kind) = .function
  rw [this]; rfl
theorem swB_ok (s : GS T N CA cl H0 sc c X) {y : Str} {py p pos : Pos} {scope : Scope} {elt : Expr} {gs : List Comprehension} (h : swB sc y py p scope = true) :
    X.env.scope.names.lookup y = some .local ∧ swapsWith (.ListComp elt gs scope p) (some (.Name y py)) pos.line X.env = pure true := by
  unfold swB at h
  rw [Bool.and_eq_true, Bool.and_eq_true] at h
  obtain ⟨⟨h1, h2⟩, h3⟩ := h
  have h1 := of_decide_eq_true h1
  refine ⟨by rw [s.sce]; exact h1, ?_⟩
  show (pure (X.env.blockKind == .function && X.env.kindOf y == some .local && py.line == p.line && !(scope.names.any fun (n, k) => n == y && (k == .local || k == .cell))) : Sem Bool) = _
  have e1 : X.env.kindOf y = some .local := by show X.env.scope.names.lookup y = _; rw [s.sce]; exact h1
  rw [s.bk, e1, h2, h3]
  rfl
theorem cell_sw (s : GS T N CA cl H0 sc c X) {y : Str} {py p pos : Pos} {scope : Scope} {elt : Expr} {gs : List Comprehension} (h : sc.names.lookup y = some .cell) :
    swapsWith (.ListComp elt gs scope p) (some (.Name y py)) pos.line X.env = pure false := by
  show (pure (X.env.blockKind == .function && X.env.kindOf y == some .local && py.line == p.line && !(scope.names.any fun (n, k) => n == y && (k == .local || k == .cell))) : Sem Bool) = _
  have e1 : X.env.kindOf y = some .cell := by show X.env.scope.names.lookup y = _; rw [s.sce]; exact h
  rw [s.bk, e1]
  rfl
theorem cutSw_ok (s : GS T N CA cl H0 sc c X) {ts vs : List Expr} {kt k2 : Nat} {p p2 : Pos} {r : Option (List Str)} (h : cutSw ts vs sc = some r) : swappedStores [.Tuple ts kt p] (.Tuple vs k2 p2) X.env = pure r := by
  have eb := s.bk
  have ek : X.env.kindOf = fun n => sc.names.lookup n := by funext n; show X.env.scope.names.lookup n = _; rw [s.sce]
  unfold cutSw at h
  unfold swappedStores
  simp only [eb, ek]
  rw [show (ScopeKind.function != ScopeKind.function) = false from rfl, Bool.or_false]
  dsimp only at h
  split at h
  · rename_i h1; cases h; exact if_pos h1
  rename_i h1; refine (if_neg h1).trans ?_
  split at h
  · rename_i h2; cases h; exact if_pos h2
  rename_i h2; refine (if_neg h2).trans ?_
  split at h
  · rename_i h3; cases h; exact if_pos h3
  rename_i h3; refine (if_neg h3).trans ?_
  split at h
  · rename_i h4; cases h; exact if_pos h4
  rename_i h4; refine (if_neg h4).trans ?_
  split at h
  · cases h
  rename_i h5; cases h; exact if_neg h5
def nmOf : Expr → Option Str
  | .Name x _ => some x
  | _ => none
theorem fm_len {α β : Type} {f g : α → Option β} (hfg : ∀ a b, f a = some b → g a = some b) : ∀ {l : List α}, (l.filterMap f).length = l.length → l.filterMap f = l.filterMap g
  | [], _ => rfl
  | a :: l, h => by
    cases e : f a with
    | none =>
      rw [List.filterMap_cons_none e] at h
      have := List.length_filterMap_le f l
      simp at h; omega
    | some b =>
      rw [List.filterMap_cons_some e] at h ⊢
      rw [List.filterMap_cons_some (hfg a b e), fm_len hfg (by simpa using h)]
theorem cutSw_some {ts vs : List Expr} {nm : List Str} (h : cutSw ts vs sc = some (some nm)) : nm = ts.filterMap nmOf ∧ ∀ x ∈ nm, sc.names.lookup x = some .local := by
  unfold cutSw at h
  dsimp only at h
  split at h; · cases h
  split at h; · cases h
  split at h; · cases h
  rename_i h3
  split at h; · cases h
  split at h; · cases h
  cases h
  simp only [Bool.or_eq_true, bne_iff_ne, ne_eq, not_or, Decidable.not_not] at h3
  refine ⟨fm_len (fun a b e => ?_) h3.1, fun x hx => ?_⟩
  · split at e
    · split at e
      · cases e; rfl
      · cases e
    · cases e
  · obtain ⟨a, _, e⟩ := List.mem_filterMap.mp hx
    split at e
    · split at e
      · rename_i q
        cases e
        rw [Bool.and_eq_true] at q
        exact eq_of_beq q.1
      · cases e
    · cases e
theorem cutSw_loc {ts vs : List Expr} {nm : List Str} (h : cutSw ts vs sc = some (some nm)) {x : Str} (hx : x ∈ nm) : sc.names.lookup x = some .local := (cutSw_some h).2 x hx
theorem cutSw_nm {ts vs : List Expr} {nm : List Str} (h : cutSw ts vs sc = some (some nm)) : nm = ts.filterMap nmOf := (cutSw_some h).1
def TS_ok (T : TC) (N : List Str) (CA : Nat → Option Addr) (cl : Nat → List Val → R (Val × Bool)) (n : Nat) : Prop := ∀ (H0 : Bs) c sc (X : Cx), GS T N CA cl H0 sc c X → ∀ src e, trS T N n c sc src = some e → S3 CA cl H0 X src e
theorem ss_of {n : Nat} (ih : TS_ok T N CA cl n) (s : GS T N CA cl H0 sc c X) : ∀ {ss : List Stmt} {es : List S}, trL (trS T N n c sc) ss = some es → Ss3 CA cl H0 X ss es
  | [], _, h => by cases h; exact ss_nil
  | st :: ss, _, h => by
    obtain ⟨a, h1, h⟩ := bnd_ok h
    obtain ⟨as, h2, h⟩ := bnd_ok h
    cases h
    exact ss_cons (ih _ _ _ _ s _ _ h1) (ss_of ih s h2)
theorem trS_ok : ∀ n, TS_ok T N CA cl n
  | 0 => fun H0 c sc X s src e h => by unfold trS at h; cases h
  | n + 1 => fun H0 c sc X s src e h => by
    have ih : TS_ok T N CA cl n := trS_ok n
    have g := s.g
    have nd : X.N.Nodup := by rw [g.hN]; exact g.nd
    have ihe : ∀ {a ea}, trE T N n c true sc a = some ea → RE CA cl H0 X a ea := fun h => trE_ok n c true sc X g _ _ h
    have hsl : ∀ {x i}, slot N x = some i → X.N[i]? = some x := fun h => by rw [g.hN]; exact slot_ok h
    unfold trS at h
    split at h
    all_goals first | cases h | skip
    case h_1 p => exact s_pass
    case h_2 p => exact s_retn
    case h_3 e p =>
      obtain ⟨ea, h1, h⟩ := bnd_ok h
      split at h
      · split at h <;> first | cases h | skip
        have h2 := (og_ok h).1
        replace h := (og_ok h).2
        cases h
        simp only [Bool.and_eq_true, decide_eq_true_eq] at h2
        obtain ⟨⟨h2, hv⟩, hd⟩ := h2
        exact s_retm (hsl h2) (g.so.vis hv) (dbg_ok hd).1 (dbg_ok hd).2
      · cases c with
        | false => cases h; exact s_ret (fun i z => by cases z) (ihe h1).v
        | true =>
          cases h
          exact s_rett (trE_ok n true true sc X { g with hot := fun z => by cases z } _ _ h1).v
      · rename_i hn _
        cases h
        exact s_ret (fun i z => hn i z) (ihe h1).v
    case h_4 y py elt gs scope p pos =>
      have h1 := (og_ok h).1
      replace h := (og_ok h).2
      rw [Bool.and_eq_true] at h1
      obtain ⟨i, h2, h⟩ := bnd_ok h
      obtain ⟨ea, h3, rfl⟩ := map_ok' h
      obtain ⟨rfl, hw⟩ := h1
      by_cases hcell : sc.names.lookup y = some .cell
      · have hl : locB sc y = true := by unfold locB; rw [hcell]
        exact s_setN nd (hsl h2) (g.so.lc hl) (g.fn _ hl) (cell_sw s hcell) (ihe h3).v
      rw [decide_eq_false hcell, Bool.or_false] at hw
      cases n with
      | zero => unfold trE at h3; cases h3
      | succ m =>
        unfold trE at h3
        split at h3
        all_goals rename_i heq
        all_goals first | (cases heq; done) | (cases h3; done) | skip
        all_goals cases heq
        obtain ⟨_, h3⟩ := og_ok h3
        obtain ⟨it', a2, h3⟩ := bnd_ok h3
        obtain ⟨hzb, h3⟩ := og_ok h3
        obtain ⟨tg, a3, h3⟩ := bnd_ok h3
        obtain ⟨el, a4, h3⟩ := bnd_ok h3
        obtain ⟨cond, a5, h3⟩ := bnd_ok h3
        obtain ⟨a6, h3⟩ := og_ok h3
        cases h3
        obtain ⟨⟨b1, b2, b3, b4, b5, b6⟩, _⟩ := lc_ok (p := p) g (trE_ok m) a2 hzb a3 a4 a5 a6
        obtain ⟨w1, w2⟩ := swB_ok s hw
        exact s_setLc (g.cm rfl) nd (hsl h2) w1 w2 b1 (tupB_ok hzb) b2 b3 b4 b5 b6
    case h_5 y p1 e pos _ =>
      have h1 := (og_ok h).1
      replace h := (og_ok h).2
      rw [Bool.and_eq_true] at h1
      split at h
      · obtain ⟨h4, h⟩ := og_ok h
        simp only [Bool.and_eq_true, decide_eq_true_eq] at h4
        obtain ⟨⟨⟨hm, hline⟩, hv⟩, hd⟩ := h4
        obtain ⟨hd1, hd2⟩ := dbg_ok hd
        obtain ⟨j, h2, h⟩ := bnd_ok h
        obtain ⟨i, h3, rfl⟩ := map_ok' h
        subst hm
        exact s_popi g.un nd (hsl h2) (g.so.lc h1.1) (g.fn _ h1.1) (hsl h3) (g.so.vis hv) hd1 hd2 hline
      · split at h
        · obtain ⟨i, h2, h⟩ := bnd_ok h
          obtain ⟨ea, h3, rfl⟩ := map_ok' h
          exact s_set nd (hsl h2) (g.so.lc h1.1) (g.fn _ h1.1) h1.2 (ihe h3).v
        · obtain ⟨i, h2, rfl⟩ := map_ok' h
          exact s_dnew nd (hsl h2) (g.so.lc h1.1) (g.fn _ h1.1)
      obtain ⟨i, h2, h⟩ := bnd_ok h
      obtain ⟨ea, h3, rfl⟩ := map_ok' h
      exact s_set nd (hsl h2) (g.so.lc h1.1) (g.fn _ h1.1) h1.2 (ihe h3).v
    case h_6 ts k p vs k2 p2 pos =>
      have h1 := (og_ok h).1
      replace h := (og_ok h).2
      obtain ⟨r, h2, h⟩ := bnd_ok h
      have hw := cutSw_ok (kt := k) (k2 := k2) (p := p) (p2 := p2) s h2
      split at h
      · obtain ⟨tg, h3, h⟩ := bnd_ok h
        split at h
        · obtain ⟨ea, h4, rfl⟩ := map_ok' h
          exact s_unp nd (g.cm h1) (trTg_ok g h3) hw rfl (ihe h4).v
        · cases h
      · rename_i nm
        have hlo : ∀ {x : Str}, x ∈ nm → X.env.scope.names.lookup x = some .local := fun hx => by
          rw [s.sce]; exact cutSw_loc h2 hx
        have hnm := cutSw_nm h2
        split at h
        · obtain ⟨i, h3, h⟩ := bnd_ok h
          obtain ⟨j, h4, h⟩ := bnd_ok h
          obtain ⟨ea, h5, h⟩ := bnd_ok h
          obtain ⟨eb, h6, h⟩ := bnd_ok h
          have h7 := (og_ok h).1
          replace h := (og_ok h).2
          cases h
          have e : nm = [_, _] := hnm
          subst e
          exact s_par nd (g.cm h1) (hsl h3) (hsl h4) (of_decide_eq_true h7) (hlo (by simp)) (hlo (by simp)) hw (.cons ⟨(ihe h5).ok, (ihe h5).v⟩ (.cons ⟨(ihe h6).ok, (ihe h6).v⟩ .nil))
        · obtain ⟨i, h3, h⟩ := bnd_ok h
          obtain ⟨j, h4, h⟩ := bnd_ok h
          obtain ⟨l, h4', h⟩ := bnd_ok h
          obtain ⟨ea, h5, h⟩ := bnd_ok h
          obtain ⟨eb, h6, h⟩ := bnd_ok h
          obtain ⟨ec, h6', h⟩ := bnd_ok h
          have h7 := (og_ok h).1
          replace h := (og_ok h).2
          cases h
          simp only [Bool.and_eq_true, decide_eq_true_eq] at h7
          have e : nm = [_, _, _] := hnm
          subst e
          exact s_par3 nd (g.cm h1) (hsl h3) (hsl h4) (hsl h4') h7.1.1 h7.1.2 h7.2 (hlo (by simp)) (hlo (by simp)) (hlo (by simp)) hw (.cons ⟨(ihe h5).ok, (ihe h5).v⟩ (.cons ⟨(ihe h6).ok, (ihe h6).v⟩ (.cons ⟨(ihe h6').ok, (ihe h6').v⟩ .nil)))
        · cases h
    case h_7 ts k p x p1 m pa pc pos =>
      have h1 := (og_ok h).1
      replace h := (og_ok h).2
      simp only [Bool.and_eq_true, decide_eq_true_eq] at h1
      obtain ⟨⟨⟨⟨hc, hm⟩, hline⟩, hv⟩, hd⟩ := h1
      obtain ⟨hd1, hd2⟩ := dbg_ok hd
      obtain ⟨tg, h2, h⟩ := bnd_ok h
      split at h
      · rename_i is
        obtain ⟨i, h3, rfl⟩ := map_ok' h
        subst hm
        exact s_popu nd (g.cm hc) (trTg_ok g h2) (hsl h3) (g.so.vis hv) hd1 hd2 hline
      · cases h
    case h_8 ts k p e pos hn1 hn2 =>
      have h1 := (og_ok h).1
      replace h := (og_ok h).2
      rw [Bool.and_eq_true] at h1
      obtain ⟨tg, h2, h⟩ := bnd_ok h
      split at h
      · obtain ⟨ea, h3, rfl⟩ := map_ok' h
        exact s_unp nd (g.cm h1.1) (trTg_ok g h2) (by cases e <;> first | rfl | exact absurd rfl (hn1 _ _ _) | exact absurd rfl (hn2 _ _ _)) h1.2 (ihe h3).v
      · cases h
    case h_9 x p2 b p1 e pos =>
      have h1 := (og_ok h).1
      replace h := (og_ok h).2
      simp only [Bool.and_eq_true, Bool.not_eq_true'] at h1
      obtain ⟨⟨⟨hv, hd⟩, hs⟩, hb⟩ := h1
      obtain ⟨hd1, hd2⟩ := dbg_ok hd
      obtain ⟨i, h2, h⟩ := bnd_ok h
      obtain ⟨eb, h3, h⟩ := bnd_ok h
      obtain ⟨ea, h4, rfl⟩ := map_ok' h
      split
      · exact s_dput g.un (hsl h2) (g.so.vis hv) hd1 hd2 (fun v => by cases b <;> first | rfl | cases hb) hs (ihe h4).v (ihe h3).l
      · split
        · exact s_kput g.un (hsl h2) (g.so.vis hv) hd1 hd2 (fun v => by cases b <;> first | rfl | cases hb) hs (ihe h4).v (ihe h3).l
        · exact s_six (hsl h2) (g.so.vis hv) hd1 hd2 (fun v => by cases b <;> first | rfl | cases hb) hs (ihe h4).v (ihe h3).l
    case h_10 x p1 m pa args pc pos =>
      have h1 := (og_ok h).1
      replace h := (og_ok h).2
      simp only [Bool.and_eq_true] at h1
      obtain ⟨⟨hline, hv⟩, hd⟩ := h1
      obtain ⟨hd1, hd2⟩ := dbg_ok hd
      obtain ⟨i, h2, hq⟩ := bnd_ok h
      clear h
      split at hq
      · split at hq
        · rename_i hm; subst hm; cases hq
          exact s_pop (hsl h2) (g.so.vis hv) hd1 hd2 hline
        · split at hq
          · rename_i hm; subst hm; cases hq
            exact s_rev (hsl h2) (g.so.vis hv) hd1 hd2 hline
          · split at hq
            · rename_i hm; subst hm; cases hq
              exact s_clr (hsl h2) (g.so.vis hv) hd1 hd2 hline
            · cases hq
      · split at hq
        · rename_i hm; subst hm
          obtain ⟨ea, h3, rfl⟩ := map_ok' hq
          exact s_app (hsl h2) (g.so.vis hv) hd1 hd2 hline (ihe h3).ok (ihe h3).v
        · cases hq
      · split at hq
        · rename_i hm; subst hm
          obtain ⟨eb, h3, hq⟩ := bnd_ok hq
          obtain ⟨ea, h4, rfl⟩ := map_ok' hq
          exact s_ins (hsl h2) (g.so.vis hv) hd1 hd2 hline (ihe h4).ok (ihe h3).ok (ihe h4).v (ihe h3).l
        · cases hq
      · cases hq
    case h_11 o b p m pa args pc pos =>
      have h1 := (og_ok h).1
      replace h := (og_ok h).2
      obtain ⟨eo, h2, hq⟩ := bnd_ok h
      clear h
      have bad : ∀ {e w}, S3 CA cl H0 X (.Expr (.Call (.Attribute (.Subscript o b p) m pa) args [] pc) pos) (.mut e w) := fun {e w} W tk => ⟨fun pins s σ H D I q => by
        obtain ⟨env, P, er, q⟩ := q
        exact False.elim q⟩
      split at hq
      · split at hq
        · cases hq; exact bad
        · split at hq
          · split at hq
            · obtain ⟨_, _, rfl⟩ := map_ok' (og_ok hq).2
              exact bad
            · cases hq; exact bad
          · split at hq
            · cases hq; exact bad
            · cases hq
      · split at hq
        · obtain ⟨ea, h3, rfl⟩ := map_ok' hq
          exact bad
        · cases hq
      · cases hq
    case h_12 e pos _ _ =>
      have h1 := (og_ok h).1
      replace h := (og_ok h).2
      obtain ⟨ea, h3, rfl⟩ := map_ok' h
      exact s_exp h1 (ihe h3).v
    case h_13 d a b pos =>
      obtain ⟨ed, h1, h⟩ := bnd_ok h
      obtain ⟨ea, h2, h⟩ := bnd_ok h
      obtain ⟨eb, h3, rfl⟩ := map_ok' h
      exact s_if (ihe h1).l (ss_of ih s h2) (ss_of ih s h3)
    case h_14 d b pos =>
      obtain ⟨ed, h1, h⟩ := bnd_ok h
      obtain ⟨eb, h3, rfl⟩ := map_ok' h
      exact s_whl s.hp (ihe h1).l (ss_of ih s h3)
    case h_15 tgs it b pos =>
      have h1 := (og_ok h).1
      replace h := (og_ok h).2
      obtain ⟨i, h2, h⟩ := bnd_ok h
      obtain ⟨hzb, h⟩ := og_ok h
      obtain ⟨tg, h3, h⟩ := bnd_ok h
      obtain ⟨eb, h4, rfl⟩ := map_ok' h
      subst h1
      exact s_for s.hp nd (g.cm rfl) (trTg_ok g h3) (trIt_ok g (fun a ea h => trE_ok n true true sc X g a ea h) h2) (tupB_ok hzb) (ss_of ih s h4)
    case h_16 x p3 m k p2 p1 pos =>
      have h1 := (og_ok h).1
      replace h := (og_ok h).2
      simp only [Bool.and_eq_true] at h1
      obtain ⟨⟨hc, hg⟩, hd⟩ := h1
      obtain ⟨j, h2, rfl⟩ := map_ok' h
      obtain ⟨C, hC, hm⟩ := g.cls _ _ h2
      exact s_rse g.cf (g.cm hc) hC hm (g.so.gl hg) (dbg_ok hd).1
    case h_17 b x p2 nm h0 hs p1 pos =>
      have h1 := (og_ok h).1
      replace h := (og_ok h).2
      simp only [Bool.and_eq_true, decide_eq_true_eq] at h1
      obtain ⟨⟨⟨hc, hg⟩, hd⟩, hl⟩ := h1
      obtain ⟨k, h2, h⟩ := bnd_ok h
      obtain ⟨i, h3, h⟩ := bnd_ok h
      obtain ⟨eb, h4, h⟩ := bnd_ok h
      obtain ⟨eh, h5, rfl⟩ := map_ok' h
      obtain ⟨C, hC, hm⟩ := g.cls _ _ h2
      exact s_try g.cf s.stk s.fr s.ex nd (hsl h3) (by show X.env.scope.names.lookup nm = _; rw [s.sce]; exact hl) hC hm (g.so.gl hg) (dbg_ok hd).1
        (fun pn xe hp => ss_of ih (s.tr pn xe hp) h4) (fun a pn H1 hot => ss_of ih (s.suite a pn hot) h5)
theorem trG_ok {n : Nat} (s : GS T N CA cl H0 sc true X) {s1 s2 : Stmt} {t : S} (h : trG T N n sc s1 s2 = some t) {ss : List Stmt} {ts : List S} (h2 : Ss3 CA cl H0 X ss ts) : Ss3 CA cl H0 X (s1 :: s2 :: ss) (t :: ts) := by
  have g := s.g
  have nd : X.N.Nodup := by rw [g.hN]; exact g.nd
  have ihe : ∀ {a ea}, trE T N n true true sc a = some ea → RE CA cl H0 X a ea := fun h => trE_ok n true true sc X g _ _ h
  have ihk : ∀ {a ea}, trE T N n true true sc a = some ea → RE CA cl ⟨H0.h, fun _ => False⟩ X a ea := fun h => trE_ok n true true sc X { g with hot := fun z => by cases z } _ _ h
  have hsl : ∀ {x i}, slot N x = some i → X.N[i]? = some x := fun h => by rw [g.hN]; exact slot_ok h
  unfold trG at h
  split at h
  · have k1 := (og_ok h).1
    replace h := (og_ok h).2
    have k2 := (og_ok h).1
    replace h := (og_ok h).2
    have k3 := (og_ok h).1
    replace h := (og_ok h).2
    have k4 := (og_ok h).1
    replace h := (og_ok h).2
    simp only [Bool.and_eq_true, decide_eq_true_eq] at k1
    obtain ⟨⟨⟨⟨ey2, ey3⟩, ex2⟩, em1⟩, em2⟩ := k1
    rw [Bool.and_eq_true, Bool.and_eq_true] at k2 k3 k4
    obtain ⟨⟨hl1, hl2⟩, hnc⟩ := k2
    obtain ⟨⟨ly, vy⟩, dy⟩ := k3
    obtain ⟨⟨lx, vx⟩, dx⟩ := k4
    subst ey2 ey3 ex2 em1 em2
    obtain ⟨i, e1, h⟩ := bnd_ok h
    obtain ⟨w, e2, h⟩ := bnd_ok h
    obtain ⟨el, e3, h⟩ := bnd_ok h
    obtain ⟨i2, e4, h⟩ := bnd_ok h
    obtain ⟨ec, e5, h⟩ := bnd_ok h
    obtain ⟨sg, e6, h⟩ := bnd_ok h
    obtain ⟨em, e7, h⟩ := bnd_ok h
    obtain ⟨eo, e8, h⟩ := bnd_ok h
    split at h
    · obtain ⟨hbi, h⟩ := og_ok h
      cases h
      rw [Bool.not_eq_true'] at hbi
      exact ss_trm s.hp nd (g.cm rfl) (hsl e1) (g.so.lc ly) (g.fn _ ly) (g.so.vis vy) (dbg_ok dy).1 (dbg_ok dy).2 (hsl e2) (g.so.lc lx) (g.fn _ lx) (g.so.vis vx) (dbg_ok dx).1 (dbg_ok dx).2 hnc (ihk e3).v (ihe e5).l (ihk e6).ok (ihk e6).v (ihe e7).ok (ihe e7).v (ihe e8).ok (ihe e8).v (trIt_ok g (fun a ea h => trE_ok n true true sc X g a ea h) e4) hbi hl1 hl2 h2
    · cases h
  · cases h
theorem sd_of {n : Nat} (s : GS T N CA cl H0 sc true X) {ss : List Stmt} {es : List S} (h : trD T N n sc ss = some es) : Ss3 CA cl H0 X ss es := by
  unfold trD at h
  split at h
  · split at h
    · rename_i e0
      obtain ⟨a, h1, h⟩ := bnd_ok h
      obtain ⟨d, h2, h⟩ := bnd_ok h
      obtain ⟨_, h⟩ := og_ok h
      cases h
      exact ss_cons (trS_ok n _ _ _ _ s _ _ h1) (trG_ok s e0 (ss_cons (trS_ok n _ _ _ _ s _ _ h2) ss_nil))
    · exact ss_of (trS_ok n) s h
  · exact ss_of (trS_ok n) s h
end
end G

set_option linter.all false
set_option maxHeartbeats 8000000
set_option maxRecDepth 100000
namespace G
open PySem PySem.Spec PyProof.Rows HT
open L2 hiding Takes XE CX takes_of passes_call ps_raise PMk MkP mk_of pmk_own passAt ps_try_as ps_try_many HdsOk
open L2N (Takes XE CX takes_of passes_call ps_raise PMk MkP mk_of pmk_own passAt)
section
variable {T : TC} {N : List Str} {CA : Nat → Option Addr} {cl : Nat → List Val → R (Val × Bool)} {H0 : Bs} {sc : Scope} {c : Bool} {X0 : Cx} {args : List Val}
def TT_ok (T : TC) (N : List Str) (CA : Nat → Option Addr) (cl : Nat → List Val → R (Val × Bool)) (H0 : Bs) (args : List Val) (X : Cx) (n : Nat) : Prop := ∀ c sc, GS T N CA cl H0 sc c X → ∀ src e, trS T N n c sc src = some e → T3 CA cl H0 args X src e
theorem ts_of {n : Nat} (ih : TT_ok T N CA cl H0 args X0 n) (s : GS T N CA cl H0 sc c X0) : ∀ {ss : List Stmt} {es : List S}, trL (trS T N n c sc) ss = some es → Ts3 CA cl H0 args X0 ss es
  | [], _, h => by cases h; exact ts_nil
  | st :: ss, _, h => by
    obtain ⟨a, h1, h⟩ := bnd_ok h
    obtain ⟨as, h2, h⟩ := bnd_ok h
    cases h
    exact ts_cons (ih _ _ s _ _ h1) (ts_of ih s h2)
theorem t_app {a : Expr} {ea : E} {pos : Pos} (E : Ent X0.K CA H0 args) {i : Nat} {x : Str} {px pa pc : Pos} (hN : X0.N[i]? = some x) (hv : Vis X0.env.scope x) (hd : (x == ("__debug__" : Str)) = false) (hcd : (x == ("__classdict__" : Str)) = false) (hline : (pa.endLine == pc.line) = true) (hs : okSrc a = true) (ha : V3 CA cl H0 X0 a ea) :
    T3 CA cl H0 args X0 (.Expr (.Call (.Attribute (.Name x px) "append" pa) [a] [] pc) pos) (.app i ea) := fun Z hZ W tk => ⟨fun pins s σ H D I q => by
  obtain ⟨env, P, er, z, q⟩ := q
  by_cases hf : ∃ v, env[i]? = some (some (v, false))
  · obtain ⟨v, hf⟩ := hf
    have e : evT1 cl args (.app i ea) env = mutO cl args (.nm i) (.app ea) env := by
      show (match env[i]? with | some (some (_, false)) => mutO cl args (.nm i) (.app ea) env | _ => evS cl (.app i ea) env) = _
      rw [hf]
    rw [e] at q
    exact PS.run (m_app (pa := pa) (pc := pc) (pos := pos) (o := .Name x px) (eo := .nm i) E rfl hline hs (v3_nm hN hv hd hcd) ha hZ tk) pins s σ H D I ⟨env, P, er, z, q⟩
  · have e : evT1 cl args (.app i ea) env = evS cl (.app i ea) env := by
      show (match env[i]? with | some (some (_, false)) => mutO cl args (.nm i) (.app ea) env | _ => evS cl (.app i ea) env) = _
      split
      · rename_i v h; exact absurd ⟨_, h⟩ hf
      · rfl
    rw [e] at q
    exact PS.run (s_app (px := px) (pa := pa) (pc := pc) (pos := pos) hN hv hd hcd hline hs ha W tk) pins s σ H D I ⟨env, P, er, q.toS hZ z⟩⟩
theorem trT_ok (E : Ent X0.K CA H0 args) : ∀ n, TT_ok T N CA cl H0 args X0 n
  | 0 => fun c sc s src e h => by unfold trS at h; cases h
  | n + 1 => fun c sc s src e h => by
    have iht := trT_ok E n
    have h0 := h
    have g := s.g
    have nd : X0.N.Nodup := by rw [g.hN]; exact g.nd
    have ihe : ∀ {a ea}, trE T N n c true sc a = some ea → RE CA cl H0 X0 a ea := fun h => trE_ok n c true sc X0 g _ _ h
    have hsl : ∀ {x i}, slot N x = some i → X0.N[i]? = some x := fun h => by rw [g.hN]; exact slot_ok h
    unfold trS at h
    split at h
    all_goals first | cases h | skip
    case h_1 p => exact T3.of (trS_ok _ _ _ _ _ s _ _ h0) (fun _ => rfl)
    case h_2 p => exact T3.of (trS_ok _ _ _ _ _ s _ _ h0) (fun _ => rfl)
    case h_3 e p =>
      obtain ⟨ea, h1, h⟩ := bnd_ok h
      split at h
      · split at h <;> first | cases h | skip
        have h2 := (og_ok h).1
        replace h := (og_ok h).2
        cases h
        simp only [Bool.and_eq_true, decide_eq_true_eq] at h2
        obtain ⟨⟨h2, hv⟩, hd⟩ := h2
        exact T3.of (trS_ok _ _ _ _ _ s _ _ h0) (fun _ => rfl)
      · cases h
        exact T3.of (trS_ok _ _ _ _ _ s _ _ h0) (fun _ => by cases c <;> rfl)
      · rename_i hn
        cases h
        exact T3.of (trS_ok _ _ _ _ _ s _ _ h0) (fun _ => rfl)
    case h_4 y py elt gs scope p pos =>
      have h1 := (og_ok h).1
      replace h := (og_ok h).2
      rw [Bool.and_eq_true] at h1
      obtain ⟨i, h2, h⟩ := bnd_ok h
      obtain ⟨ea, h3, rfl⟩ := map_ok' h
      obtain ⟨rfl, hw⟩ := h1
      by_cases hcell : sc.names.lookup y = some .cell
      · have hl : locB sc y = true := by unfold locB; rw [hcell]
        exact T3.of (trS_ok _ _ _ _ _ s _ _ h0) (fun _ => rfl)
      rw [decide_eq_false hcell, Bool.or_false] at hw
      cases n with
      | zero => unfold trE at h3; cases h3
      | succ m =>
        unfold trE at h3
        split at h3
        all_goals rename_i heq
        all_goals first | (cases heq; done) | (cases h3; done) | skip
        all_goals cases heq
        obtain ⟨_, h3⟩ := og_ok h3
        obtain ⟨it', a2, h3⟩ := bnd_ok h3
        obtain ⟨hzb, h3⟩ := og_ok h3
        obtain ⟨tg, a3, h3⟩ := bnd_ok h3
        obtain ⟨el, a4, h3⟩ := bnd_ok h3
        obtain ⟨cond, a5, h3⟩ := bnd_ok h3
        obtain ⟨a6, h3⟩ := og_ok h3
        cases h3
        exact T3.of (trS_ok _ _ _ _ _ s _ _ h0) (fun _ => rfl)
    case h_5 y p1 e pos _ =>
      have h1 := (og_ok h).1
      replace h := (og_ok h).2
      rw [Bool.and_eq_true] at h1
      split at h
      · obtain ⟨h4, h⟩ := og_ok h
        obtain ⟨j, h2, h⟩ := bnd_ok h
        obtain ⟨i, h3, rfl⟩ := map_ok' h
        exact T3.of (trS_ok _ _ _ _ _ s _ _ h0) (fun _ => rfl)
      · split at h
        · obtain ⟨i, h2, h⟩ := bnd_ok h
          obtain ⟨ea, h3, rfl⟩ := map_ok' h
          exact T3.of (trS_ok _ _ _ _ _ s _ _ h0) (fun _ => rfl)
        · obtain ⟨i, h2, rfl⟩ := map_ok' h
          exact T3.of (trS_ok _ _ _ _ _ s _ _ h0) (fun _ => rfl)
      obtain ⟨i, h2, h⟩ := bnd_ok h
      obtain ⟨ea, h3, rfl⟩ := map_ok' h
      exact T3.of (trS_ok _ _ _ _ _ s _ _ h0) (fun _ => rfl)
    case h_6 ts k p vs k2 p2 pos =>
      have h1 := (og_ok h).1
      replace h := (og_ok h).2
      obtain ⟨r, h2, h⟩ := bnd_ok h
      have hw := cutSw_ok (kt := k) (k2 := k2) (p := p) (p2 := p2) s h2
      split at h
      · obtain ⟨tg, h3, h⟩ := bnd_ok h
        split at h
        · obtain ⟨ea, h4, rfl⟩ := map_ok' h
          exact T3.of (trS_ok _ _ _ _ _ s _ _ h0) (fun _ => rfl)
        · cases h
      · rename_i nm
        have hlo : ∀ {x : Str}, x ∈ nm → X0.env.scope.names.lookup x = some .local := fun hx => by
          rw [s.sce]; exact cutSw_loc h2 hx
        have hnm := cutSw_nm h2
        split at h
        · obtain ⟨i, h3, h⟩ := bnd_ok h
          obtain ⟨j, h4, h⟩ := bnd_ok h
          obtain ⟨ea, h5, h⟩ := bnd_ok h
          obtain ⟨eb, h6, h⟩ := bnd_ok h
          have h7 := (og_ok h).1
          replace h := (og_ok h).2
          cases h
          have e : nm = [_, _] := hnm
          subst e
          exact T3.of (trS_ok _ _ _ _ _ s _ _ h0) (fun _ => rfl)
        · obtain ⟨i, h3, h⟩ := bnd_ok h
          obtain ⟨j, h4, h⟩ := bnd_ok h
          obtain ⟨l, h4', h⟩ := bnd_ok h
          obtain ⟨ea, h5, h⟩ := bnd_ok h
          obtain ⟨eb, h6, h⟩ := bnd_ok h
          obtain ⟨ec, h6', h⟩ := bnd_ok h
          have h7 := (og_ok h).1
          replace h := (og_ok h).2
          cases h
          simp only [Bool.and_eq_true, decide_eq_true_eq] at h7
          have e : nm = [_, _, _] := hnm
          subst e
          exact T3.of (trS_ok _ _ _ _ _ s _ _ h0) (fun _ => rfl)
        · cases h
    case h_7 ts k p x p1 m pa pc pos =>
      have h1 := (og_ok h).1
      replace h := (og_ok h).2
      simp only [Bool.and_eq_true, decide_eq_true_eq] at h1
      obtain ⟨⟨⟨⟨hc, hm⟩, hline⟩, hv⟩, hd⟩ := h1
      obtain ⟨hd1, hd2⟩ := dbg_ok hd
      obtain ⟨tg, h2, h⟩ := bnd_ok h
      split at h
      · rename_i is
        obtain ⟨i, h3, rfl⟩ := map_ok' h
        subst hm
        exact T3.of (trS_ok _ _ _ _ _ s _ _ h0) (fun _ => rfl)
      · cases h
    case h_8 ts k p e pos hn1 hn2 =>
      have h1 := (og_ok h).1
      replace h := (og_ok h).2
      rw [Bool.and_eq_true] at h1
      obtain ⟨tg, h2, h⟩ := bnd_ok h
      split at h
      · obtain ⟨ea, h3, rfl⟩ := map_ok' h
        exact T3.of (trS_ok _ _ _ _ _ s _ _ h0) (fun _ => rfl)
      · cases h
    case h_9 x p2 b p1 e pos =>
      have h1 := (og_ok h).1
      replace h := (og_ok h).2
      simp only [Bool.and_eq_true, Bool.not_eq_true'] at h1
      obtain ⟨⟨⟨hv, hd⟩, hs⟩, hb⟩ := h1
      obtain ⟨hd1, hd2⟩ := dbg_ok hd
      obtain ⟨i, h2, h⟩ := bnd_ok h
      obtain ⟨eb, h3, h⟩ := bnd_ok h
      obtain ⟨ea, h4, rfl⟩ := map_ok' h
      exact T3.of (trS_ok _ _ _ _ _ s _ _ h0) (fun _ => by split <;> first | rfl | (split <;> rfl))
    case h_10 x p1 m pa args pc pos =>
      have h1 := (og_ok h).1
      replace h := (og_ok h).2
      simp only [Bool.and_eq_true] at h1
      obtain ⟨⟨hline, hv⟩, hd⟩ := h1
      obtain ⟨hd1, hd2⟩ := dbg_ok hd
      obtain ⟨i, h2, hq⟩ := bnd_ok h
      clear h
      split at hq
      · split at hq
        · rename_i hm; subst hm; cases hq
          exact T3.of (trS_ok _ _ _ _ _ s _ _ h0) (fun _ => rfl)
        · split at hq
          · rename_i hm; subst hm; cases hq
            exact T3.of (trS_ok _ _ _ _ _ s _ _ h0) (fun _ => rfl)
          · split at hq
            · rename_i hm; subst hm; cases hq
              exact T3.of (trS_ok _ _ _ _ _ s _ _ h0) (fun _ => rfl)
            · cases hq
      · split at hq
        · rename_i hm; subst hm
          obtain ⟨ea, h3, rfl⟩ := map_ok' hq
          exact t_app E (hsl h2) (g.so.vis hv) hd1 hd2 hline (ihe h3).ok (ihe h3).v
        · cases hq
      · split at hq
        · rename_i hm; subst hm
          obtain ⟨eb, h3, hq⟩ := bnd_ok hq
          obtain ⟨ea, h4, rfl⟩ := map_ok' hq
          exact T3.of (trS_ok _ _ _ _ _ s _ _ h0) (fun _ => rfl)
        · cases hq
      · cases hq
    case h_11 o b p m pa args pc pos =>
      have h1 := (og_ok h).1
      replace h := (og_ok h).2
      obtain ⟨eo, h2, hq⟩ := bnd_ok h
      clear h
      split at hq
      · split at hq
        · rename_i hm; subst hm; cases hq; exact m_pop E rfl h1 (ihe h2).v
        · split at hq
          · rename_i hm; subst hm
            split at hq
            · rename_i x px k kk p2
              obtain ⟨hb, hq⟩ := og_ok hq
              rw [Bool.and_eq_true] at hb
              obtain ⟨i, h3, rfl⟩ := map_ok' hq
              exact m_revp E h1 (hsl h3) (g.so.vis hb.1) (dbg_ok hb.2).1 (dbg_ok hb.2).2
            · cases hq; exact m_rev E rfl h1 (ihe h2).v
          · split at hq
            · rename_i hm; subst hm; cases hq; exact m_clr E rfl h1 (ihe h2).v
            · cases hq
      · split at hq
        · rename_i hm; subst hm
          obtain ⟨ea, h3, rfl⟩ := map_ok' hq
          exact fun Z hZ W tk => m_app E rfl h1 (ihe h3).ok (ihe h2).v (ihe h3).v hZ tk
        · cases hq
      · cases hq
    case h_12 e pos _ _ =>
      have h1 := (og_ok h).1
      replace h := (og_ok h).2
      obtain ⟨ea, h3, rfl⟩ := map_ok' h
      exact T3.of (trS_ok _ _ _ _ _ s _ _ h0) (fun _ => rfl)
    case h_13 d a b pos =>
      obtain ⟨ed, h1, h⟩ := bnd_ok h
      obtain ⟨ea, h2, h⟩ := bnd_ok h
      obtain ⟨eb, h3, rfl⟩ := map_ok' h
      exact t_if (ihe h1).l (ts_of iht s h2) (ts_of iht s h3)
    case h_14 d b pos =>
      obtain ⟨ed, h1, h⟩ := bnd_ok h
      obtain ⟨eb, h3, rfl⟩ := map_ok' h
      exact T3.of (trS_ok _ _ _ _ _ s _ _ h0) (fun _ => rfl)
    case h_15 tgs it b pos =>
      have h1 := (og_ok h).1
      replace h := (og_ok h).2
      obtain ⟨i, h2, h⟩ := bnd_ok h
      obtain ⟨hzb, h⟩ := og_ok h
      obtain ⟨tg, h3, h⟩ := bnd_ok h
      obtain ⟨eb, h4, rfl⟩ := map_ok' h
      subst h1
      exact t_for s.hp nd (g.cm rfl) (trTg_ok g h3) (trIt_ok g (fun a ea h => trE_ok n true true sc X0 g a ea h) h2) (tupB_ok hzb) (ss_of (trS_ok n) s h4) (ts_of iht s h4)
    case h_16 x p3 m k p2 p1 pos =>
      have h1 := (og_ok h).1
      replace h := (og_ok h).2
      simp only [Bool.and_eq_true] at h1
      obtain ⟨⟨hc, hg⟩, hd⟩ := h1
      obtain ⟨j, h2, rfl⟩ := map_ok' h
      obtain ⟨C, hC, hm⟩ := g.cls _ _ h2
      exact T3.of (trS_ok _ _ _ _ _ s _ _ h0) (fun _ => rfl)
    case h_17 b x p2 nm h0 hs p1 pos =>
      have h1 := (og_ok h).1
      replace h := (og_ok h).2
      simp only [Bool.and_eq_true, decide_eq_true_eq] at h1
      obtain ⟨⟨⟨hc, hg⟩, hd⟩, hl⟩ := h1
      obtain ⟨k, h2, h⟩ := bnd_ok h
      obtain ⟨i, h3, h⟩ := bnd_ok h
      obtain ⟨eb, h4, h⟩ := bnd_ok h
      obtain ⟨eh, h5, rfl⟩ := map_ok' h
      obtain ⟨C, hC, hm⟩ := g.cls _ _ h2
      exact T3.of (trS_ok _ _ _ _ _ s _ _ h0) (fun _ => rfl)
end
end G

set_option linter.all false
set_option maxHeartbeats 4000000
set_option maxRecDepth 100000
namespace G
open PySem PySem.Spec PyProof.Rows HT
open L2 hiding Takes XE CX takes_of passes_call ps_raise PMk MkP mk_of pmk_own passAt ps_try_as ps_try_many HdsOk
open L2N (Takes XE CX takes_of passes_call ps_raise PMk MkP mk_of pmk_own passAt)
structure DI where
  x : Str
  st : Stmt
  N : List Str
  ps : List Str
  fd : FD
def DI.ok (T : TC) (d : DI) (body : Option (List S)) : Bool := decide (d.fd.np = d.ps.length) && decide (d.fd.nl = d.N.length)
section
variable {T : TC} {CA : Nat → Option Addr} {FT : Nat → Option FD} {P : Program} {w : World} {K : PySem.W.Frag} {mg : Str → Option Value} {base : Heap}
structure Txt (T : TC) (CA : Nat → Option Addr) (P : Program) (K : PySem.W.Frag) (mg : Str → Option Value) (base : Heap) : Prop where
  seer : base.NoSeer
  tree : P.given.tree = none
  cf : CFs K CA
  csts : ∀ x v, T.csts.lookup x = some v → ∃ u y, mg x = some u ∧ RelV y u ∧ ∀ H P, RV K CA H P v y
  cls : ∀ x k, T.cls.lookup x = some k → ∃ C, CA k = some C ∧ mg x = some (.ref C)
  blt : ∀ x ∈ bltNames, mg x = none
structure DOk (T : TC) (FT : Nat → Option FD) (K : PySem.W.Frag) (mg : Str → Option Value) (k : Nat) (x : Str) (st : Stmt) (N ps : List Str) (ad : Addr) (fd : FuncData) (fb : FD) : Prop where
  F : Fun K x x st ad fd
  S : FnScope N ps (defScope st)
  m : mg x = some (.ref ad)
  ns : PySem.W.nsIn K mainGlobals x = some (some (.ref ad))
  b : Binds K fd ps []
  np : fb.np = ps.length
  nl : fb.nl = N.length
  tr : ∃ n, trD T N n (defScope st) (defBody st) = some fb.body
  ft : FT k = some fb
def Dfs (T : TC) (FT : Nat → Option FD) (K : PySem.W.Frag) (mg : Str → Option Value) : Prop := ∀ x k np, T.fns.lookup x = some (k, np) → ∃ st N ps ad fd fb, DOk T FT K mg k x st N ps ad fd fb ∧ ps.length = np
theorem startE_get {nl : Nat} {vs : List Val} {i : Nat} {p : Val × Bool} (h : (startE nl vs)[i]? = some (some p)) : p.2 = false ∧ vs[i]? = some p.1 := by
  unfold startE at h
  by_cases hi : i < vs.length
  · rw [List.getElem?_append_left (by rw [List.length_map]; exact hi), List.getElem?_map] at h
    cases e : vs[i]? with
    | none => rw [e] at h; cases h
    | some v => rw [e] at h; cases h; exact ⟨rfl, rfl⟩
  · rw [List.getElem?_append_right (by rw [List.length_map]; omega), List.getElem?_replicate] at h
    split at h <;> cases h
theorem er_start {H : Hp} {P : Addr → Prop} {N : List Str} {nl : Nat} {args : List Val} {vs : List V} (t : Trk P H) (r : RVs K CA H P args vs) (hn : nl = N.length) (hl : vs.length ≤ N.length) : ER K CA ⟨H, P⟩ H P (startE nl args) (L2.start N vs) where
  ext := Same.refl _
  gr := .refl
  trk := t
  len := by
    unfold startE L2.start
    rw [List.length_append, List.length_append, List.length_map, List.length_map, List.length_replicate, List.length_replicate, r.length, hn]
  shr := fun i v e => by
    obtain ⟨_, h⟩ := startE_get e
    obtain ⟨x, h1, h2⟩ := r.get h
    refine ⟨x, ?_, h2⟩
    unfold L2.start
    rw [List.getElem?_append_left (by rw [List.length_map]; exact (List.getElem?_eq_some_iff.mp h1).1), List.getElem?_map, h1]; rfl
  own := fun i v e => by
    obtain ⟨h, _⟩ := startE_get e; cases h
  dis := fun i j v w a e => by
    obtain ⟨h, _⟩ := startE_get e; cases h
theorem Out.less {H : Hp} {P P0 : Addr → Prop} {p : Val × Bool} {Q : VK} (o : Out K CA H P p Q) (t : Trk P H) (h : ∀ a, P0 a → P a) : Out K CA H P0 p Q := fun H' P' x st r => by
  have ok : ∀ a, P a → ∃ o, H' a = some o ∧ Mt o := fun a z => by
    obtain ⟨xs, e, m⟩ := t a z
    exact ⟨xs, st.s _ _ e, m⟩
  refine o H' (fun a => P' a ∨ P a) x ⟨st.s, ⟨fun a z => .inr z, fun a z => z.elim (fun z => (st.g.2 a z).imp (h a) id) .inl⟩, fun a z => z.elim (st.t a) (ok a)⟩ ?_
  rcases r with ⟨e, r⟩ | ⟨e, a, ob, e2, e3, e4, e5, e6⟩
  · exact .inl ⟨e, r.mono (Same.refl _) fun _ z => .inl z⟩
  · refine .inr ⟨e, a, ob, e2, e3, e4, fun z => z.elim e5 fun z => ?_, e6.mono (Same.refl _) fun _ z => .inl z⟩
    obtain ⟨ys, w, _⟩ := t a z
    rw [e3] at w; cases w
theorem okN {x qual : Str} {st : Stmt} {f : Addr} {fd : FuncData} {N ps : List Str} {k : Nat} {sp : Sp} (F : Fun K x qual st f fd) (S : FnScope N ps (defScope st)) (len : ∀ vs H Q E, sp vs H Q E → vs.length = ps.length)
    (hb : ∀ (cdv : Value) (A : Around) (outer : List PySem.Env) (s : Shared) (H : Hp) (vs : List V) (Q : VK) (E : XK), Room k (A.deeper (envOfC qual (defScope st) s.heap.objs.size f cdv)) → sp vs H Q E →
      ∃ t, PSs (cxOf (L2N.CX P w) P w K mg base N qual (defScope st) f cdv A outer s H E) (defBody st) t ∧ t { nx := fun _ H' => Q .non H', rt := Q } (start N vs) H) : FnOk P w K mg base (L2N.CX P w) (k + 1) f fd ps sp := by
  obtain ⟨oc, od, kV, doc, pm, an, cdv, ct, osl, rfl, lk, hcd⟩ := F.ex
  exact fn_of lk hcd S len fun A outer s H vs Q E hr hsp => hb cdv A outer s H vs Q E hr hsp
theorem fn_ok {FT : Nat → Option FD} (D : Dfs T FT K mg) (Tx : Txt T CA P K mg base) : ∀ (n k : Nat) (x : Str) (st : Stmt) (N ps : List Str) (ad : Addr) (fd : FuncData) (fb : FD), DOk T FT K mg k x st N ps ad fd fb →
    FnOk P w K mg base (L2N.CX P w) (n + 40) ad fd ps (spF K CA (callF FT n) k ps.length)
  | 0, k, x, st, N, ps, ad, fd, fb, d => by
    refine ⟨fun vs H Q E h => ?_, fun A outer s H args us vs Q E hr e0 hb hv h => ?_⟩
    · obtain ⟨_, _, _, _, h, _⟩ := h
      exact h
    · obtain ⟨_, _, _, _, _, h⟩ := h
      exact h.elim
  | n + 1, k, x, st, N, ps, ad, fd, fb, d => by
    have S := d.S
    have hpl : ps.length ≤ N.length := by have := congrArg List.length S.pre; rw [List.length_take] at this; omega
    refine okN d.F S (fun vs H Q E h => ?_) (fun cdv A outer s H vs Q E hr h => ?_)
    · obtain ⟨_, _, _, _, h, _⟩ := h
      exact h
    · obtain ⟨Pf, args, t, ra, hl, h⟩ := h
      have hla : args.length = fb.np := by rw [d.np, ← hl]; exact ra.length
      have g : ∀ H0 : Bs, GC T N CA (callF FT n) H0 (defScope st) true (cxOf (L2N.CX P w) P w K mg base N x (defScope st) ad cdv A outer s H E) := fun H0 =>
        { hot := fun z => by cases z
          hN := rfl, nd := S.nd, so := .refl, cm := fun _ => rfl
          un := by have := hr.un; show (A.deeper _).units + 64 < _; omega
          dp := by have := hr.dp; show (A.deeper _).depth + 100 < _; omega
          seer := Tx.seer, tree := Tx.tree
          stk := ⟨_, _, rfl, S.gen, S.co, rfl, rfl⟩
          cf := Tx.cf
          fns := fun _ y j np hy => by
            obtain ⟨st', N', ps', ad', fd', fb', d', rfl⟩ := D y j np hy
            refine ⟨fun a e => by cases (show some (Value.ref ad') = some (Value.ref a) from d'.m.symm.trans e); exact d'.ns, ?_⟩
            exact ⟨n + 40, ad', fd', ps', rfl, d'.m, d'.F.kp, d'.b, fn_ok D Tx n j y st' N' ps' ad' fd' fb' d', hr⟩
          csts := Tx.csts, cls := Tx.cls, blt := Tx.blt, fn := fun _ _ => .inl rfl }
      have s : ∀ H0 : Bs, GS T N CA (callF FT n) H0 (defScope st) true (cxOf (L2N.CX P w) P w K mg base N x (defScope st) ad cdv A outer s H E) :=
        fun H0 => ⟨g H0, rfl, S.kind, rfl, rfl, rfl, passes_of rfl⟩
      obtain ⟨m, tr⟩ := d.tr
      have e : callF FT (n + 1) k args = (if newF k = true then finN (evSs (callF FT n) fb.body (startE fb.nl args)) else fin (if hasMut fb.body = true then evTs (callF FT n) args fb.body (startE fb.nl args) else evSs (callF FT n) fb.body (startE fb.nl args))) := by
        show (match FT k with | some d => if args.length = d.np then (if newF k = true then finN (evSs (callF FT n) d.body (startE d.nl args)) else fin (if hasMut d.body = true then evTs (callF FT n) args d.body (startE d.nl args) else evSs (callF FT n) d.body (startE d.nl args))) else .bad | none => .bad) = _
        rw [d.ft]
        exact if_pos hla
      cases hn : newF k with
      | true =>
        rw [hn, if_pos rfl] at e
        refine ⟨_, sd_of (H0 := ⟨H, Pf⟩) (s _) tr _ (takes_of rfl rfl rfl rfl), startE fb.nl args, Pf, er_start t ra d.nl (by rw [hl]; exact hpl), ?_⟩
        rw [e] at h
        cases eo : evSs (callF FT n) fb.body (startE fb.nl args) with
        | nx env' => rw [eo] at h; exact h.elim
        | brk env' => rw [eo] at h; exact h.elim
        | cnt env' => rw [eo] at h; exact h.elim
        | ret v fr => rw [eo] at h; exact h.elim
        | rtn vs => rw [eo] at h; exact (if_pos hn).mp h
        | exc c env' =>
          rw [eo] at h
          intro σ' H' P' C _ er hC
          exact h H' C er.ext hC
        | bad => rw [eo] at h; exact h.elim
      | false =>
      rw [hn, if_neg Bool.false_ne_true] at e
      have nn : ¬ newF k = true := by rw [hn]; exact Bool.false_ne_true
      cases hm : hasMut fb.body with
      | false =>
        rw [hm, if_neg (by decide)] at e
        refine ⟨_, sd_of (H0 := ⟨H, Pf⟩) (s _) tr _ (takes_of rfl rfl rfl rfl), startE fb.nl args, Pf, er_start t ra d.nl (by rw [hl]; exact hpl), ?_⟩
        rw [e] at h
        cases eo : evSs (callF FT n) fb.body (startE fb.nl args) with
        | nx env' =>
          rw [eo] at h
          intro σ' H' P' _ er
          exact (if_neg nn).mp h H' P' .non ⟨er.ext, er.gr, er.trk⟩ (.inl ⟨rfl, .non⟩)
        | brk env' => rw [eo] at h; exact h.elim
        | cnt env' => rw [eo] at h; exact h.elim
        | ret v fr => rw [eo] at h; exact (if_neg nn).mp h
        | rtn vs => rw [eo] at h; exact h.elim
        | exc c env' =>
          rw [eo] at h
          intro σ' H' P' C _ er hC
          exact h H' C er.ext hC
        | bad => rw [eo] at h; exact h.elim
      | true =>
        rw [hm, if_pos rfl] at e
        have hp : ∀ a, Ocs K CA H Pf args vs a → Pf a := fun a o => ocs_p args o
        have t0 : Trk (fun b => Ocs K CA H Pf args vs b) H := fun a o => t a (hp a o)
        have r0 : RVs K CA H (fun b => Ocs K CA H Pf args vs b) args vs := oc_rvs args ra fun b o => o
        have En : Ent K CA ⟨H, fun b => Ocs K CA H Pf args vs b⟩ args := ⟨Pf, vs, fun b o => o⟩
        refine ⟨_, ts_of (H0 := ⟨H, fun b => Ocs K CA H Pf args vs b⟩) (trT_ok En m) (s _) (trD_mut T N tr hm) _ Stb.all _ (takes_of rfl rfl rfl rfl), startE fb.nl args, _, er_start t0 r0 d.nl (by rw [hl]; exact hpl), trivial, ?_⟩
        rw [e] at h
        cases eo : evTs (callF FT n) args fb.body (startE fb.nl args) with
        | nx env' =>
          rw [eo] at h
          intro σ' H' P' er _
          exact Out.less ((if_neg nn).mp h) t hp H' P' .non ⟨er.ext, er.gr, er.trk⟩ (.inl ⟨rfl, .non⟩)
        | brk env' => rw [eo] at h; exact h.elim
        | cnt env' => rw [eo] at h; exact h.elim
        | ret v fr => rw [eo] at h; exact Out.less ((if_neg nn).mp h) t hp
        | rtn vs => rw [eo] at h; exact h.elim
        | exc c env' =>
          rw [eo] at h
          intro σ' H' P' C er hC
          exact h H' C er.ext hC
        | bad => rw [eo] at h; exact h.elim
theorem law_sp {n k : Nat} {a : Addr} {ns : List Int} {H : Hp} (hS : SqK K H a (ns.map V.int)) (h : ∃ fr, callF FT n k [.scr ns] = .ok (.bl true, fr)) : spF K CA (callF FT n) k 1 [.ref a] H (fun v _ => v = .bl true) fun _ _ _ => False := by
  obtain ⟨fr, h⟩ := h
  refine ⟨fun _ => False, [.scr ns], fun _ z => z.elim, .cons (.scr hS) .nil, rfl, ?_⟩
  rw [h]
  refine spF_ok ?_ (fun _ z => z.elim : Trk (fun _ => False) H)
  intro H' P' x st r
  rcases r with ⟨_, r⟩ | ⟨_, _, _, _, _, _, _, e⟩
  · cases r; rfl
  · cases e
end
end G

set_option linter.all false
set_option maxHeartbeats 4000000
set_option maxRecDepth 100000
namespace G
open PySem PySem.Spec PyProof.Rows HT
open L2 hiding Takes XE CX takes_of passes_call ps_raise PMk MkP mk_of pmk_own passAt ps_try_as ps_try_many HdsOk
open L2N (Takes XE CX takes_of passes_call ps_raise PMk MkP mk_of pmk_own passAt)
def scrO (vs : List Value) (ns : List Int) : HO := .frz { cls := .type "list", data := .seq vs.toArray } (.lst (ns.map V.int))
def scrH (K : PySem.W.Frag) (a : Addr) (vs : List Value) (ns : List Int) : Hp := fun b => if b = a ∧ K.lookup a = none then some (scrO vs ns) else none
section
variable {K : PySem.W.Frag} {a : Addr} {vs : List Value} {ns : List Int}
theorem scrH_some {b : Addr} {u : HO} (h : scrH K a vs ns b = some u) : b = a ∧ K.lookup a = none ∧ u = scrO vs ns := by
  unfold scrH at h
  split at h
  · rename_i q; cases h; exact ⟨q.1, q.2, rfl⟩
  · cases h
theorem scrH_none {b : Addr} (h : b ≠ a ∨ K.lookup a ≠ none) : scrH K a vs ns b = none := by
  cases e : scrH K a vs ns b with
  | none => rfl
  | some u =>
    obtain ⟨h1, h2, _⟩ := scrH_some e
    rcases h with h | h
    · exact absurd h1 h
    · exact absurd h2 h
end
theorem law_callG {P : Program} {w : World} {K : PySem.W.Frag} {mg mb : Str → Option Value} {CX : CXT} {k : Nat} {fa a : Addr} {fd : FuncData} {x : Str} {sp : Sp} {s₁ : Shared} {vs : List Value} {ns : List Int}
    (NS : s₁.heap.NoSeer) (KX : K.In s₁.heap) (hns : s₁.heap.Ns mainGlobals mg) (hb : s₁.heap.Ns builtinsNs mb) (hbb : ∀ x : Str, x ≠ "__name__" → mb x = bootBuiltins x) (hlim : s₁.heap.NoLimit) (hg : s₁.gens = #[])
    (ha : s₁.heap.get? a = some { cls := .type "list", data := .seq vs.toArray }) (hi : IntsAre vs ns) (hl : ns.length ≤ sizeLine) (hr : Room k callerA)
    (F : ∀ base : Heap, K.In base → base.Ns mainGlobals mg → base.NoSeer → FnOk P w K mg base CX k fa fd [x] sp) (hbind : ∀ (s : Shared) (u : Value), BindsTo s fd ⟨[u], []⟩ [(x, u)])
    (hsp : ∀ H : Hp, SqK K H a (ns.map V.int) → sp [.ref a] H (fun v _ => v = .bl true) fun _ _ _ => False)
    (hCX : ∀ H e s', CX [] H s₁ (fun _ _ _ => False) e s' → False) :
    codeAny (model P w) callerA (.call (.ref fa) ⟨[.ref a], []⟩) (fun r s' => r = .ok (.ret (.bool true)) ∧ OldK s₁.heap s'.heap ∧ s'.os = s₁.os ∧ AllBare s'.gens) s₁ := by
  have rv := vals_ints hi
  have hS : SqK K (scrH K a vs ns) a (ns.map V.int) := by
    cases hk : K.lookup a with
    | some o =>
      have e := KX a o hk
      rw [ha] at e; cases e
      exact .inr ⟨_, vs.toArray, _, hk, rfl, rfl, rfl, by rw [List.size_toArray, hi.length]; exact hl, by simpa using rv⟩
    | none => exact .inl ⟨_, if_pos ⟨rfl, hk⟩⟩
  have hok : HOk P w (scrH K a vs ns) s₁.heap := fun b u z => by
    obtain ⟨rfl, _, rfl⟩ := scrH_some z
    exact ⟨ha, by rw [List.length_map]; exact hl, vs, _, rv, ha⟩
  have old : ∀ {b : Addr} {o : Obj}, s₁.heap.get? b = some o → scrH K a vs ns b = none → (hidT s₁.heap (scrH K a vs ns)).get? b = some o := fun e n => hidT_get e n
  have noL : ∀ {b : Addr} {o : Obj}, s₁.heap.get? b = some o → o.cls ≠ .type "list" ∨ (∃ es ep, o.data = .dict es ep) → scrH K a vs ns b = none := fun {b o} e d => by
    cases z : scrH K a vs ns b with
    | none => rfl
    | some u =>
      obtain ⟨rfl, _, _⟩ := scrH_some z
      rw [ha] at e; cases e
      rcases d with d | ⟨es, ep, d⟩
      · exact absurd rfl d
      · cases (show Data.seq vs.toArray _ = Data.dict es ep from d)
  have nsK : ∀ {b : Addr} {m : Str → Option Value}, s₁.heap.Ns b m → (hidT s₁.heap (scrH K a vs ns)).Ns b m := fun {b m} ⟨o, es, ep, e, d, r⟩ => ⟨o, es, ep, old e (noL e (.inr ⟨es, ep, d⟩)), d, r⟩
  have hKb : K.In (hidT s₁.heap (scrH K a vs ns)) := fun b o e => old (KX b o e) (scrH_none (by
    by_cases hb : b = a
    · subst hb; right; rw [e]; exact Option.some_ne_none _
    · exact .inl hb))
  have hM : Mod K mg (hidT s₁.heap (scrH K a vs ns)) := ⟨hKb, nsK hns, ⟨mb, nsK hb, hbb⟩, let ⟨mc, h1, h2⟩ := hlim; ⟨mc, nsK h1, h2⟩⟩
  have hN : (hidT s₁.heap (scrH K a vs ns)).NoSeer := by
    obtain ⟨⟨mc, c1, c2⟩, ⟨mm, m1, m2⟩, ⟨mi, i1, i2⟩, ⟨mo, bm, ob, o1, o2, o3, o4, o5⟩⟩ := NS
    exact ⟨⟨mc, nsK c1, c2⟩, ⟨mm, nsK m1, m2⟩, ⟨mi, nsK i1, i2⟩, ⟨mo, bm, ob, nsK o1, o2, old o3 (noL o3 (.inl (by rw [o4]; decide))), o4, o5⟩⟩
  have e0 : Env0 P w K mg (hidT s₁.heap (scrH K a vs ns)) callerA [] s₁ (scrH K a vs ns) :=
    ⟨rfl, hM, fun b o e => of_hidT e, Nat.le_of_eq (hidT_size _ _), trivial, fun b hb => absurd (show b ∈ ([] : List Addr) from hb) (by simp), hok, .of_eq hg⟩
  refine codeAny_mono ((F _ hKb (nsK hns) hN).run callerA [] s₁ _ ⟨[.ref a], []⟩ [.ref a] [.ref a] _ _ hr e0 (hbind s₁ (.ref a)) (.cons rfl .nil) (hsp _ hS)) fun r s' h => ?_
  cases r with
  | error e => exact (hCX _ e s' h).elim
  | ok fl =>
    cases fl with
    | next => exact False.elim h
    | brk => exact False.elim h
    | cont => exact False.elim h
    | ret u =>
      obtain ⟨v, H', os, bare, un, hok', r', q⟩ := h
      have q' : v = .bl true := q
      subst q'
      obtain rfl : u = Value.bool true := r'
      refine ⟨rfl, OldK.of_keep fun b o e => ?_, os, bare⟩
      cases z : scrH K a vs ns b with
      | none => exact un.keep b o e z (by intro z; exact absurd (show b ∈ ([] : List Addr) from z) (by simp)) (by simp)
      | some u =>
        obtain ⟨_, _, rfl⟩ := scrH_some z
        have z2 := un.frzs b _ _ z
        obtain ⟨e1, _⟩ := hok b _ z
        obtain ⟨e2, _⟩ := hok' b _ z2
        rw [e] at e1; cases e1
        exact e2
theorem walkG {l : PySem.W.OpenLaw} {n k : Nat} {q : Program} {loose : List Str} {XP : (Str → Option Value) → Heap → Prop} {YP : World → Heap → Prop} {d : DefRec} {K : Params → PySem.W.Frag} {CX : World → CXT} {sp : World → Sp} {x : Str}
    (hn : l.most = some n) (hn2 : n ≤ sizeLine) (hdf : d.params.defaults = []) (hr : Room k callerA) (hq : importsNone q = true)
    (hY : ∀ (w : World) (h : Heap), YP w h → (K w.params).In h)
    (F : ∀ (w : World) (mg : Str → Option Value) (fa : Addr) (h : Heap), (K w.params).In h → h.Ns mainGlobals mg → mg d.name = some (.ref fa) →
      ∃ fd : FuncData, (∀ (s : Shared) (u : Value), BindsTo s fd ⟨[u], []⟩ [(x, u)]) ∧
        ∀ base : Heap, (K w.params).In base → base.Ns mainGlobals mg → base.NoSeer → FnOk l.prog w (K w.params) mg base (CX w) k fa fd [x] (sp w))
    (hsp : ∀ (w : World) (H : Hp) (a : Addr) (ns : List Int), ns.length ≤ n → (∀ z ∈ ns, Builtin.Int.intBits z ≤ 1048576) → SqK (K w.params) H a (ns.map V.int) → sp w [.ref a] H (fun v _ => v = .bl true) fun _ _ _ => False)
    (hCX : ∀ (w : World) (H : Hp) (s : Shared) (e : Value) (s' : Shared), CX w [] H s (fun _ _ _ => False) e s' → False) :
    PySem.W.WalkO q loose XP YP l.row.toRowW d [] (fun f vs => PySem.call f vs) := by
  refine Att.attach_callB hn hdf fun w s₀ s₁ mg mb fa o pm cd doc a vs ns G Y ho hd hcd hmg hobj hints hlen hbits hg => ?_
  have KX := hY w _ Y
  obtain ⟨fd, hb, hF⟩ := F w mg fa _ KX G.T.g hmg
  exact law_callG (G.T.seer hq) KX G.T.g G.T.b G.T.builtins G.T.nolimit hg hobj hints (Nat.le_trans hlen hn2) hr hF hb (fun H hS => hsp w H a ns hlen hbits hS) fun H e s' => hCX w H s₁ e s'
end G

set_option linter.all false
set_option maxHeartbeats 4000000
set_option maxRecDepth 100000
namespace G
open PySem PySem.Spec PyProof.Rows HT
open L2 hiding Takes XE CX takes_of passes_call ps_raise PMk MkP mk_of pmk_own passAt ps_try_as ps_try_many HdsOk
open L2N (Takes XE CX takes_of passes_call ps_raise PMk MkP mk_of pmk_own passAt)
section
variable {T : TC} {FT : Nat → Option FD} {K : PySem.W.Frag} {mg : Str → Option Value} {h : Heap}
def DfP (T : TC) (FT : Nat → Option FD) (K : PySem.W.Frag) (mg : Str → Option Value) (e : Str × (Nat × Nat)) : Prop :=
  ∃ st N ps ad fd fb, DOk T FT K mg e.2.1 e.1 st N ps ad fd fb ∧ ps.length = e.2.2
theorem lk_all {β : Type} {p : Str × β → Prop} {l : List (Str × β)} (h : ∀ e ∈ l, p e) : ∀ x b, l.lookup x = some b → p (x, b) := fun x b e => h _ (PySem.mem_of_lookup e)
theorem dfs_of (h : ∀ e ∈ T.fns, DfP T FT K mg e) : Dfs T FT K mg := fun x k np e => lk_all h x (k, np) e
theorem al_nil {α : Type} {p : α → Prop} : ∀ e ∈ ([] : List α), p e := fun _ h => by cases h
theorem al_cons {α : Type} {p : α → Prop} {a : α} {l : List α} (h1 : p a) (h2 : ∀ e ∈ l, p e) : ∀ e ∈ a :: l, p e := fun e h => by
  rcases List.mem_cons.mp h with rfl | h
  · exact h1
  · exact h2 e h
structure DTx (T : TC) (FT : Nat → Option FD) (k : Nat) (x : Str) (st : Stmt) (N ps : List Str) (fb : FD) : Prop where
  S : FnScope N ps (defScope st)
  b : ∀ (kV doc pm : Value) (an : Option Addr) (cdv ct : Value) (us : List Value), us.length = ps.length → bindArgs (PySem.W.fnOf x x (defArgs st) (defBody st) (defScope st) .none kV doc pm an cdv ct) ⟨us, []⟩ = pure (ps.zip us)
  np : fb.np = ps.length
  nl : fb.nl = N.length
  tr : trD T N 60 (defScope st) (defBody st) = some fb.body
  ft : FT k = some fb
theorem df_mk {k : Nat} {x : Str} {st : Stmt} {N ps : List Str} {fb : FD} {f : Addr} {oc : Value} {od an : Option Addr} {osl : Array (Option Value)} {kV doc pm cdv ct : Value} (X : K.In h) (G : h.Ns mainGlobals mg) (d : DTx T FT k x st N ps fb)
    (a : PySem.W.nsIn K mainGlobals x = some (some (.ref f))) (l : K.lookup f = some ⟨oc, od, .func (PySem.W.fnOf x x (defArgs st) (defBody st) (defScope st) .none kV doc pm an cdv ct), osl⟩) (c : PySem.W.codeIn K cdv x = true) (kp : PySem.W.keepIn K (.ref f) = true) :
    DOk T FT K mg k x st N ps f (PySem.W.fnOf x x (defArgs st) (defBody st) (defScope st) .none kV doc pm an cdv ct) fb :=
  have F := fun_mk l c kp
  ⟨F, d.S, PySem.W.mg_of X G a, a, F.binds d.b, d.np, d.nl, ⟨60, d.tr⟩, d.ft⟩
structure ClF (K : PySem.W.Frag) (mg : Str → Option Value) (C0 : Addr) (c : Nat) (x : Str) (C : Addr) : Prop where
  f : CF K C0 c C
  m : mg x = some (.ref C)
def caOf (l : List (Nat × Addr)) : Nat → Option Addr := fun c => l.lookup c
theorem lookup_mem {l : List (Nat × Addr)} {c : Nat} {C : Addr} (h : l.lookup c = some C) : (c, C) ∈ l := by
  induction l with
  | nil => cases h
  | cons e l ih =>
    obtain ⟨d, D⟩ := e
    rw [List.lookup_cons] at h
    split at h
    · rename_i hb
      cases h
      have : c = d := by simpa using hb
      rw [this]; exact List.mem_cons_self
    · exact List.mem_cons_of_mem _ (ih h)
theorem snd_inj {l : List (Nat × Addr)} (nd : (l.map (·.2)).Nodup) {c d : Nat} {C : Addr} (h1 : (c, C) ∈ l) (h2 : (d, C) ∈ l) : c = d := by
  induction l with
  | nil => cases h1
  | cons e l ih =>
    rw [List.map_cons, List.nodup_cons] at nd
    rcases List.mem_cons.mp h1 with r1 | r1 <;> rcases List.mem_cons.mp h2 with r2 | r2
    · rw [← r1] at r2; cases r2; rfl
    · exact absurd (List.mem_map.mpr ⟨_, r2, rfl⟩) (by rw [← r1] at nd; exact nd.1)
    · exact absurd (List.mem_map.mpr ⟨_, r1, rfl⟩) (by rw [← r2] at nd; exact nd.1)
    · exact ih nd.2 r1 r2
theorem cfs_of {C0 : Addr} {l : List (Nat × Addr)} (h0 : l.lookup 0 = some C0) (nd : (l.map (·.2)).Nodup) (h : ∀ e ∈ l, CF K C0 e.1 e.2) : CFs K (caOf l) where
  base := fun _ => ⟨C0, h0, fun c C e => h (c, C) (lookup_mem e)⟩
  inj := fun c d C hc hd => snd_inj nd (lookup_mem hc) (lookup_mem hd)
theorem cfs_nil {K : PySem.W.Frag} : CFs K (caOf []) where
  base := fun ⟨_, _, e⟩ => absurd e (by simp [caOf])
  inj := fun c d C hc _ => absurd hc (by simp [caOf])
structure CFt (K : PySem.W.Frag) (C0 : Addr) (c : Nat) (C : Addr) (cd : ClassData) : Prop where
  c1 : PySem.W.clsIn K C = some cd
  c2 : cd.mro = (if c = 0 then [.ref C] else [.ref C, .ref C0]) ++ PySem.HandSPX.veTail
  ty : PySem.W.typeIn K (.ref C) = some (.type "type")
  hg : PySem.W.findIn K (.ref C) "__getattribute__" = some (some (.builtin "BaseException.__getattribute__"))
  hk : PySem.W.findIn K (.ref C) "__getattr__" = some none
  hs : PySem.W.subIn K (.ref C) (.type "BaseException") = some true
  hd : PySem.W.hasDictIn K C = true
  ha : PySem.W.findIn K (.ref C) "__class__" = some (some (.builtin "object.__class__"))
  hm : PySem.W.mroIn K C (.type "object") = some true
  made : PySem.W.excIn K C [.type "ValueError", .type "Exception", .type "BaseException", .type "object"] "ValueError.__new__" = true
  kp : PySem.W.keepIn K (.ref C) = true
theorem CFt.cf {C0 : Addr} {c : Nat} {C : Addr} {cd : ClassData} (h : CFt K C0 c C cd) (hn : PySem.W.specialIn K (.builtin "object.__class__") "__get__" = some (some (.builtin "getset_descriptor.__get__"))) (ht : PySem.W.takesIn K (.builtin "object.__class__") = some true) : CF K C0 c C :=
  ⟨⟨cd, h.c1, h.c2⟩, h.ty, ⟨h.hg, h.hk, h.hs, h.hd, h.ha, hn, ht, h.hm⟩, h.made, h.kp⟩
theorem lk_cls {l : List (Nat × Addr)} {xs : List (Str × Nat)} (h : ∀ e ∈ xs, ∃ C, caOf l e.2 = some C ∧ mg e.1 = some (.ref C)) : ∀ x k, xs.lookup x = some k → ∃ C, caOf l k = some C ∧ mg x = some (.ref C) := fun x k e => lk_all (p := fun e => ∃ C, caOf l e.2 = some C ∧ mg e.1 = some (.ref C)) h x k e
structure TupK (o : Obj) (its : Array Value) (n : Nat) (xs : List V) : Prop where
  c : o.cls = .type "tuple"
  e : o.data = .seq its n
  s : its.size ≤ sizeLine
  v : Vals xs its.toList
theorem TupK.sq {o : Obj} {its : Array Value} {n : Nat} {xs : List V} {a : Addr} {H : Hp} (t : TupK o its n xs) (l : K.lookup a = some o) : SqT K H a xs := .inr ⟨o, its, n, l, t.c, t.e, t.s, t.v⟩
end
theorem cx_no {P : World → Program} (w : World) (H : Hp) (s : Shared) (e : Value) (s' : Shared) : L2N.CX (P w) w [] H s (fun _ _ _ => False) e s' → False := fun h => by
  obtain ⟨_, _, _, _, _, _, _, _, _, _, _, _, z⟩ := h
  exact z.elim
theorem walkL {l : PySem.W.OpenLaw} {n k m f : Nat} {q : Program} {loose : List Str} {XP : (Str → Option Value) → Heap → Prop} {YP : World → Heap → Prop} {d : DefRec} {K : Params → PySem.W.Frag} {FT : Nat → Option FD} {x : Str} (hn : l.most = some n) (hn2 : n ≤ sizeLine) (hdf : d.params.defaults = []) (hr : Room k callerA) (hq : importsNone q = true)
    (plain : ∀ ns : List Int, ns.length ≤ n → (∀ z ∈ ns, Builtin.Int.intBits z ≤ 1048576) → ∃ fr, callF FT m f [.scr ns] = .ok (.bl true, fr)) (hY : ∀ (w : World) (h : Heap), YP w h → (K w.params).In h)
    (F : ∀ (w : World) (mg : Str → Option Value) (fa : Addr) (h : Heap), (K w.params).In h → h.Ns mainGlobals mg → mg d.name = some (.ref fa) → ∃ (fd : FuncData) (CA : Nat → Option Addr), (∀ (s : Shared) (u : Value), BindsTo s fd ⟨[u], []⟩ [(x, u)]) ∧
      ∀ base : Heap, (K w.params).In base → base.Ns mainGlobals mg → base.NoSeer → FnOk l.prog w (K w.params) mg base (L2N.CX l.prog w) k fa fd [x] (spF (K w.params) CA (callF FT m) f 1)) : PySem.W.WalkO q loose XP YP l.row.toRowW d [] (fun f vs => PySem.call f vs) := by
  refine Att.attach_callB hn hdf fun w s₀ s₁ mg mb fa o pm cd doc a vs ns G Y ho hd hcd hmg hobj hints hlen hbits hg => ?_
  have KX := hY w _ Y
  obtain ⟨fd, CA, hb, hF⟩ := F w mg fa _ KX G.T.g hmg
  exact law_callG (G.T.seer hq) KX G.T.g G.T.b G.T.builtins G.T.nolimit hg hobj hints (Nat.le_trans hlen hn2) hr hF hb (fun H hS => law_sp hS (plain ns hlen hbits)) fun H e s' => cx_no (P := fun _ => l.prog) w H s₁ e s'
end G

set_option linter.all false
set_option maxHeartbeats 1000000
namespace G
theorem divInt_num {a b : Int} (hb : 0 < b) : (Rat.divInt a b).num = a.fdiv (Int.gcd a b) := by
  rw [Rat.num_divInt, Int.sign_eq_one_of_pos hb, Int.one_mul, Int.gcd_comm, Int.fdiv_eq_ediv_of_nonneg _ (Int.natCast_nonneg _)]
theorem divInt_den {a b : Int} (hb : 0 < b) : ((Rat.divInt a b).den : Int) = b.fdiv (Int.gcd a b) := by
  rw [Rat.den_divInt, if_neg (by omega), Int.gcd_comm, Int.fdiv_eq_ediv_of_nonneg _ (Int.natCast_nonneg _), Int.natCast_ediv]
  have : ((b.natAbs : Nat) : Int) = b := Int.natAbs_of_nonneg (by omega)
  rw [this]
theorem gcd_pos {a b : Int} (hb : b ≠ 0) : 0 < Int.gcd a b := Nat.pos_of_ne_zero fun h => hb (Int.gcd_eq_zero_iff.mp h).2
theorem den_pos (q : Rat) : 0 < (q.den : Int) := Int.natCast_pos.mpr q.den_pos
theorem den_ne (q : Rat) : (q.den : Int) ≠ 0 := by have := den_pos q; omega
theorem plus_eq (p q : Rat) : Rat.divInt (p.num * q.den + q.num * p.den) (p.den * q.den) = p + q := by
  rw [← Rat.divInt_add_divInt _ _ (den_ne p) (den_ne q), Rat.num_divInt_den, Rat.num_divInt_den]
theorem minus_eq (p q : Rat) : Rat.divInt (p.num * q.den - q.num * p.den) (p.den * q.den) = p - q := by
  rw [← Rat.divInt_sub_divInt _ _ (den_ne p) (den_ne q), Rat.num_divInt_den, Rat.num_divInt_den]
theorem times_eq (p q : Rat) : Rat.divInt (p.num * q.num) (p.den * q.den) = p * q := by
  rw [← Rat.divInt_mul_divInt, Rat.num_divInt_den, Rat.num_divInt_den]
theorem num_zero {q : Rat} : q.num = 0 ↔ q = 0 := Rat.num_eq_zero
def Bd (n : Nat) (q : Rat) : Prop := q.num.natAbs < 2 ^ n ∧ q.den < 2 ^ n
theorem Bd.mono {m n : Nat} {q : Rat} (h : Bd m q) (l : m ≤ n) : Bd n q :=
  ⟨Nat.lt_of_lt_of_le h.1 (Nat.pow_le_pow_right (by decide) l), Nat.lt_of_lt_of_le h.2 (Nat.pow_le_pow_right (by decide) l)⟩
theorem fdiv_le {a : Int} {g : Nat} : (a / (g : Int)).natAbs ≤ a.natAbs := by
  rcases Nat.eq_zero_or_pos g with h | h
  · subst h; simp
  · exact Int.natAbs_ediv_le_natAbs a g
theorem Bd.pos {n : Nat} {q : Rat} (h : Bd n q) : 0 < n := Nat.pos_of_ne_zero fun e => by
  have := h.2; have := q.den_pos; subst e; simp at *; omega
theorem Bd.divInt {n : Nat} {a b : Int} (hn : 0 < n) (ha : a.natAbs < 2 ^ n) (hb : b.natAbs < 2 ^ n) : Bd n (Rat.divInt a b) := by
  constructor
  · rw [Rat.num_divInt]
    refine Nat.lt_of_le_of_lt (Nat.le_trans fdiv_le ?_) ha
    rw [Int.natAbs_mul]
    have : b.sign.natAbs ≤ 1 := by
      rcases Int.lt_trichotomy b 0 with h | h | h
      · rw [Int.sign_eq_neg_one_of_neg h]; decide
      · subst h; decide
      · rw [Int.sign_eq_one_of_pos h]; decide
    calc b.sign.natAbs * a.natAbs ≤ 1 * a.natAbs := Nat.mul_le_mul_right _ this
      _ = a.natAbs := Nat.one_mul _
  · rw [Rat.den_divInt]
    split
    · exact Nat.lt_of_lt_of_le (by omega : 1 < 2 ^ 1) (Nat.pow_le_pow_right (by decide) hn)
    · exact Nat.lt_of_le_of_lt (Nat.div_le_self _ _) hb
theorem lt_mul {a b m n : Nat} (ha : a < 2 ^ m) (hb : b < 2 ^ n) : a * b < 2 ^ (m + n) := by
  rw [Nat.pow_add]
  exact Nat.mul_lt_mul'' ha hb
theorem Bd.cross {m n : Nat} {p q : Rat} (h : Bd m p) (k : Bd n q) : (p.num * q.den).natAbs < 2 ^ (m + n) := by
  rw [Int.natAbs_mul, Int.natAbs_natCast]; exact lt_mul h.1 k.2
theorem Bd.dens {m n : Nat} {p q : Rat} (h : Bd m p) (k : Bd n q) : ((p.den : Int) * q.den).natAbs < 2 ^ (m + n) := by
  rw [Int.natAbs_mul, Int.natAbs_natCast, Int.natAbs_natCast]; exact lt_mul h.2 k.2
theorem Bd.nums {m n : Nat} {p q : Rat} (h : Bd m p) (k : Bd n q) : (p.num * q.num).natAbs < 2 ^ (m + n) := by
  rw [Int.natAbs_mul]; exact lt_mul h.1 k.1
theorem natAbs_add_lt {a b : Int} {n : Nat} (ha : a.natAbs < 2 ^ n) (hb : b.natAbs < 2 ^ n) : (a + b).natAbs < 2 ^ (n + 1) := by
  rw [Nat.pow_succ]; omega
theorem natAbs_sub_lt {a b : Int} {n : Nat} (ha : a.natAbs < 2 ^ n) (hb : b.natAbs < 2 ^ n) : (a - b).natAbs < 2 ^ (n + 1) := by
  rw [Nat.pow_succ]; omega
theorem pow_up {a m n : Nat} (h : a < 2 ^ m) (l : m ≤ n) : a < 2 ^ n := Nat.lt_of_lt_of_le h (Nat.pow_le_pow_right (by decide) l)
theorem Bd.add {m n : Nat} {p q : Rat} (h : Bd m p) (k : Bd n q) : Bd (m + n + 1) (p + q) := by
  rw [← plus_eq]
  exact .divInt (by have := h.pos; omega) (natAbs_add_lt (h.cross k) (by have := k.cross h; rwa [Nat.add_comm] at this)) (pow_up (h.dens k) (Nat.le_succ _))
theorem Bd.sub {m n : Nat} {p q : Rat} (h : Bd m p) (k : Bd n q) : Bd (m + n + 1) (p - q) := by
  rw [← minus_eq]
  exact .divInt (by have := h.pos; omega) (natAbs_sub_lt (h.cross k) (by have := k.cross h; rwa [Nat.add_comm] at this)) (pow_up (h.dens k) (Nat.le_succ _))
theorem Bd.mul {m n : Nat} {p q : Rat} (h : Bd m p) (k : Bd n q) : Bd (m + n) (p * q) := by
  rw [← times_eq]
  exact .divInt (by have := h.pos; omega) (h.nums k) (h.dens k)
theorem Bd.neg {m : Nat} {p : Rat} (h : Bd m p) : Bd m (-p) := ⟨by rw [Rat.neg_num, Int.natAbs_neg]; exact h.1, by rw [Rat.neg_den]; exact h.2⟩
theorem log2_lt {a n : Nat} (h : a < 2 ^ n) : a.log2 ≤ n := by
  rcases Nat.eq_zero_or_pos a with z | z
  · subst z; exact Nat.zero_le _
  · exact Nat.le_of_lt ((Nat.log2_lt (by omega)).mpr h)
theorem mul_ok {a b : Int} {m n : Nat} (ha : a.natAbs < 2 ^ m) (hb : b.natAbs < 2 ^ n) (l : m + n < 134000000) : decide (a.natAbs.log2 + b.natAbs.log2 < 134000000) = true := by
  have := log2_lt ha
  have := log2_lt hb
  exact decide_eq_true (by omega)
theorem gcd_fmod (a b : Int) : Int.gcd b (a.fmod b) = Int.gcd a b := by
  rw [Int.fmod_def, Int.gcd_sub_mul_left_right, Int.gcd_comm]
theorem fmod_small {a b : Int} (hb : b ≠ 0) : (a.fmod b).natAbs < b.natAbs := by
  rcases Int.lt_or_gt_of_ne hb with h | h
  · have e : (-a).fmod (-b) = -(a.fmod b) := by
      rw [Int.fmod_def, Int.fmod_def, Int.neg_fdiv_neg, Int.neg_mul]; omega
    have h1 := Int.fmod_lt_of_pos (-a) (b := -b) (by omega)
    have h2 := Int.fmod_nonneg_of_pos (-a) (b := -b) (by omega)
    omega
  · have h1 := Int.fmod_lt_of_pos a h
    have h2 := Int.fmod_nonneg_of_pos a h
    omega
end G

set_option linter.all false
set_option maxHeartbeats 1000000
set_option maxRecDepth 10000
namespace G
open PySem
section
variable {cl : Nat → List Val → R (Val × Bool)} {env : Env} {FT : Nat → Option FD}
theorem callF_s {n f : Nat} {d : FD} {vs : List Val} (h : FT f = some d) (hl : vs.length = d.np) (hm : hasMut d.body = false := by rfl) (hn : newF f = false := by rfl) : callF FT (n + 1) f vs = fin (evSs (callF FT n) d.body (startE d.nl vs)) := by
  show (match FT f with | some d => if vs.length = d.np then (if newF f = true then finN (evSs (callF FT n) d.body (startE d.nl vs)) else fin (if hasMut d.body = true then evTs (callF FT n) vs d.body (startE d.nl vs) else evSs (callF FT n) d.body (startE d.nl vs))) else .bad | none => .bad) = _
  rw [h]
  show (if vs.length = d.np then (if newF f = true then finN (evSs (callF FT n) d.body (startE d.nl vs)) else fin (if hasMut d.body = true then evTs (callF FT n) vs d.body (startE d.nl vs) else evSs (callF FT n) d.body (startE d.nl vs))) else .bad) = _
  rw [hn, hm, if_neg (show ¬ (false = true) by decide), if_neg (show ¬ (false = true) by decide)]; exact if_pos hl
def vl (cl : Nat → List Val → R (Val × Bool)) (e : E) (env : Env) : R Val := opd env e (evE cl e env)
def vlE (cl : Nat → List Val → R (Val × Bool)) (e : E) (env : Env) : R Val := (evE cl e env).map (·.1)
def andR (cl : Nat → List Val → R (Val × Bool)) (r : R Val) (b : E) (env : Env) : R Val := r.bind fun x => (toB x).bind fun k => if k then (vl cl b env).bind fun y => (toB y).bind fun k' => .ok (.bl k') else .ok (.bl false)
def orR (cl : Nat → List Val → R (Val × Bool)) (r : R Val) (b : E) (env : Env) : R Val := r.bind fun x => (toB x).bind fun k => if k then .ok (.bl true) else (vl cl b env).bind fun y => (toB y).bind fun k' => .ok (.bl k')
def ifxR (cl : Nat → List Val → R (Val × Bool)) (r : R Val) (a b : E) (env : Env) : R Val := r.bind fun x => (truth x).bind fun k => if k then (evE cl a env).map (·.1) else (evE cl b env).map (·.1)
def chnR (cl : Nat → List Val → R (Val × Bool)) (r : R Val) (o' : COp) (y : Val) (c : E) (env : Env) : R Val := r.bind fun z => (toB z).bind fun k => if k then (vl cl c env).bind fun w => evCmp o' y w else .ok (.bl false)
theorem map_fst_pair {r : R Val} {f : Val → Bool} : (r.map fun v => (v, f v)).map (·.1) = r := by cases r <;> rfl
theorem bind_map_fst {α : Type} {r : R α} {f : α → R (Val × Bool)} : (r.bind f).map (·.1) = r.bind fun a => (f a).map (·.1) := by cases r <;> rfl
theorem vl_nm {i : Nat} : vl cl (.nm i) env = lookF env i := by
  show ((lookF env i).map fun v => (v, false)).map (·.1) = _
  exact map_fst_pair
theorem vl_bor {i : Nat} : vl cl (.bor i) env = look env i := rfl
theorem vl_cst {v : Val} : vl cl (.cst v) env = .ok v := rfl
theorem vl_bin {o : BOp} {a b : E} : vl cl (.bin o a b) env = (vl cl a env).bind fun x => (vl cl b env).bind fun y => evBin o x y := by
  show ((vl cl a env).bind fun x => (vl cl b env).bind fun y => (evBin o x y).map fun v => (v, isLst v)).map (·.1) = _
  simp only [bind_map_fst, map_fst_pair]
theorem vl_neg {a : E} : vl cl (.neg a) env = (vl cl a env).bind fun x => (toI x).bind fun i => .ok (.int (-i)) := by
  show ((vl cl a env).bind fun x => (toI x).bind fun i => R.ok (Val.int (-i), false)).map (·.1) = _
  simp only [bind_map_fst, R.map_ok]
theorem vl_cmp {o : COp} {a b : E} : vl cl (.cmp o a b) env = (vl cl a env).bind fun x => (vl cl b env).bind fun y => evCmp o x y := by
  show ((vl cl a env).bind fun x => (vl cl b env).bind fun y => (evCmp o x y).map fun v => (v, false)).map (·.1) = _
  simp only [bind_map_fst, map_fst_pair]
theorem vl_isn {n : Bool} {a : E} : vl cl (.isn n a) env = (vl cl a env).bind fun x => .ok (.bl (if n then !isNon x else isNon x)) := by
  show ((vl cl a env).bind fun x => R.ok (Val.bl (if n then !isNon x else isNon x), false)).map (·.1) = _
  simp only [bind_map_fst, R.map_ok]
theorem vl_chn {o o' : COp} {a b c : E} : vl cl (.chn o o' a b c) env = (vl cl a env).bind fun x => (vl cl b env).bind fun y => chnR cl (evCmp o x y) o' y c env := by
  show ((vl cl a env).bind fun x => (vl cl b env).bind fun y => (evCmp o x y).bind fun z => (toB z).bind fun k => if k then (vl cl c env).bind fun w => (evCmp o' y w).map (·, false) else R.ok (Val.bl false, false)).map (·.1) = _
  unfold chnR
  simp only [bind_map_fst, R.map_ok, apply_ite, map_fst_pair]
theorem vl_inn {n : Bool} {a b : E} : vl cl (.inn n a b) env = (vl cl a env).bind fun x => (vl cl b env).bind fun y => evIn n x y := by
  show ((vl cl a env).bind fun x => (vl cl b env).bind fun y => (evIn n x y).map fun v => (v, false)).map (·.1) = _
  simp only [bind_map_fst, map_fst_pair]
theorem vl_and {a b : E} : vl cl (.and a b) env = andR cl (vl cl a env) b env := by
  show ((vl cl a env).bind fun x => (toB x).bind fun k => if k then (vl cl b env).bind fun y => (toB y).bind fun k' => R.ok (Val.bl k', false) else R.ok (Val.bl false, false)).map (·.1) = _
  unfold andR
  simp only [bind_map_fst]
  congr; funext x; congr; funext k
  split <;> simp only [bind_map_fst, R.map_ok]
theorem vl_or {a b : E} : vl cl (.or a b) env = orR cl (vl cl a env) b env := by
  show ((vl cl a env).bind fun x => (toB x).bind fun k => if k then R.ok (Val.bl true, false) else (vl cl b env).bind fun y => (toB y).bind fun k' => R.ok (Val.bl k', false)).map (·.1) = _
  unfold orR
  simp only [bind_map_fst]
  congr; funext x; congr; funext k
  split <;> simp only [bind_map_fst, R.map_ok]
theorem vl_not {a : E} : vl cl (.not a) env = (vl cl a env).bind fun x => (toB x).bind fun k => .ok (.bl (!k)) := by
  show ((vl cl a env).bind fun x => (toB x).bind fun k => R.ok (Val.bl (!k), false)).map (·.1) = _
  simp only [bind_map_fst, R.map_ok]
theorem vl_ifx {c a b : E} : vl cl (.ifx c a b) env = ifxR cl (vl cl c env) a b env := by
  show ((vl cl c env).bind fun x => (truth x).bind fun k => if k then (evE cl a env).map fun p => (p.1, false) else (evE cl b env).map fun p => (p.1, false)).map (·.1) = _
  unfold ifxR
  simp only [bind_map_fst]
  congr; funext x; congr; funext k
  split <;> simp only [R.map_map]
theorem vl_ix {a b : E} : vl cl (.ix a b) env = (vl cl a env).bind fun x => (vl cl b env).bind fun y => evIx x y := by
  show ((vl cl a env).bind fun x => (vl cl b env).bind fun y => (evIx x y).map fun v => (v, false)).map (·.1) = _
  simp only [bind_map_fst, map_fst_pair]
theorem vl_slc {a : E} {lo hi : Option E} : vl cl (.slc a lo hi) env = (vl cl a env).bind fun x => (evO cl lo env).bind fun l => (evO cl hi env).bind fun h => evSlc l h x := by
  show ((vl cl a env).bind fun x => (evO cl lo env).bind fun l => (evO cl hi env).bind fun h => (evSlc l h x).map fun v => (v, isLst v)).map (·.1) = _
  simp only [bind_map_fst, map_fst_pair]
theorem vl_rev {a : E} : vl cl (.rev a) env = (vl cl a env).bind evRev := by
  show ((vl cl a env).bind fun x => (evRev x).map fun v => (v, isLst v)).map (·.1) = _
  simp only [bind_map_fst, map_fst_pair]
theorem vl_tup {as : List E} : vl cl (.tup as) env = (evEs cl as env).bind fun vs => .ok (.tup vs) := by
  show ((evEs cl as env).bind fun vs => R.ok (Val.tup vs, false)).map (·.1) = _
  simp only [bind_map_fst, R.map_ok]
theorem vl_lst {as : List E} : vl cl (.lst as) env = (evEs cl as env).bind fun vs => .ok (.lst vs) := by
  show ((evEs cl as env).bind fun vs => R.ok (Val.lst vs, true)).map (·.1) = _
  simp only [bind_map_fst, R.map_ok]
theorem vl_call {f : Nat} {as : List E} : vl cl (.call f as) env = ((evAs cl as env).bind fun vs => evCall cl env f as vs).map (·.1) := rfl
theorem vl_cal {i : Nat} {ks : List Nat} {as : List E} : vl cl (.cal i ks as) env = ((fnAt env i ks).bind fun k => (evAs cl as env).bind fun vs => evCall cl env k as vs).map (·.1) := rfl
theorem vl_dl {ks vs : List Val} : vl cl (.dl ks vs) env = if okDl ks vs = true then .ok (.dk ks vs) else .bad := by
  show (if okDl ks vs = true then R.ok (Val.dk ks vs, true) else .bad).map (·.1) = _
  split <;> rfl
theorem vl_get {a b : E} : vl cl (.get a b) env = (vl cl a env).bind fun x => (R.guard (isDct x)).bind fun _ => (vl cl b env).bind fun y => evGet x y := by
  show ((vl cl a env).bind fun x => (R.guard (isDct x)).bind fun _ => (vl cl b env).bind fun y => (evGet x y).map (·, false)).map (·.1) = _
  simp only [bind_map_fst]
  congr; funext x; congr; funext u; congr; funext y
  cases evGet x y <;> rfl
theorem vl_cax {e : E} {ks : List Nat} {as : List E} : vl cl (.cax e ks as) env = ((evE cl e env).bind fun p => (fnOf ks p.1).bind fun k => (evAs cl as env).bind fun vs => evCall cl env k as vs).map (·.1) := rfl
theorem vl_fnv {k : Nat} : vl cl (.fnv k) env = .ok (.fn k) := rfl
theorem vl_blt {f : Bf} {as : List E} : vl cl (.blt f as) env = (evAs cl as env).bind fun vs => evBf f vs := by
  show ((evAs cl as env).bind fun vs => (evBf f vs).map fun v => (v, isLst v)).map (·.1) = _
  simp only [bind_map_fst, map_fst_pair]
theorem vl_isi {a : E} {cs : List Cl} : vl cl (.isi a cs) env = (vl cl a env).bind fun x => (isiA x cs).bind fun b => .ok (.bl b) := by
  show ((vl cl a env).bind fun x => (isiA x cs).bind fun b => R.ok (Val.bl b, false)).map (·.1) = _
  simp only [bind_map_fst, R.map_ok]
theorem vl_ls {a : E} : vl cl (.ls a) env = (vl cl a env).bind evLs := by
  show ((vl cl a env).bind fun x => (evLs x).map (·, false)).map (·.1) = _
  rw [R.map_bind]
  congr 1; funext x
  cases evLs x <;> rfl
theorem vl_sm {a : E} : vl cl (.sm a) env = (vl cl a env).bind evSm := by
  show ((vl cl a env).bind fun x => (evSm x).map (·, false)).map (·.1) = _
  rw [R.map_bind]
  congr 1; funext x
  cases evSm x <;> rfl
theorem vl_jn {a : E} {s : Str} : vl cl (.jn s a) env = (vl cl a env).bind (evJn s) := by
  show ((vl cl a env).bind fun x => (evJn s x).map (·, false)).map (·.1) = _
  rw [R.map_bind]
  congr 1; funext x
  cases evJn s x <;> rfl
theorem vl_pt {a : E} {s : Str} : vl cl (.pt a s) env = (vl cl a env).bind (evPt s) := by
  show ((vl cl a env).bind fun x => (evPt s x).map (·, false)).map (·.1) = _
  rw [R.map_bind]
  congr 1; funext x
  cases evPt s x <;> rfl
theorem vl_sp {a : E} {s : Str} : vl cl (.sp a s) env = (vl cl a env).bind (evSp s) := by
  show ((vl cl a env).bind fun x => (evSp s x).map (·, true)).map (·.1) = _
  rw [R.map_bind]
  congr 1; funext x
  cases evSp s x <;> rfl
def lcR (cl : Nat → List Val → R (Val × Bool)) (r : R (List Val)) (tg : Tg) (cond : Option E) (el : E) (env : Env) : R Val := r.bind fun xs => if !lenOk xs.length then .bad else (lcLoop tg (wipeE env (tgs tg)) (fun env' => (evC cl cond env').noexc) (fun env' => ((evE cl el env').map (·.1)).noexc) xs).bind fun vs => .ok (.lst vs)
theorem vl_lc {tg : Tg} {it : It} {cond : Option E} {el : E} : vl cl (.lc tg it cond el) env = lcR cl (evIt cl it env) tg cond el env := by
  show ((evIt cl it env).bind fun xs => if !lenOk xs.length then .bad else (lcLoop tg (wipeE env (tgs tg)) (fun env' => (evC cl cond env').noexc) (fun env' => ((evE cl el env').map (·.1)).noexc) xs).bind fun vs => R.ok (Val.lst vs, true)).map (·.1) = _
  unfold lcR
  simp only [bind_map_fst]
  congr; funext xs
  split <;> simp only [bind_map_fst, R.map_ok, R.map_bad]
theorem ev_nm {i : Nat} : evE cl (.nm i) env = (lookF env i).map (·, false) := rfl
theorem ev_cst {v : Val} : evE cl (.cst v) env = .ok (v, false) := rfl
theorem ev_bin {o : BOp} {a b : E} : evE cl (.bin o a b) env = (vl cl (.bin o a b) env).map fun v => (v, isLst v) := by
  rw [vl_bin]
  show ((vl cl a env).bind fun x => (vl cl b env).bind fun y => (evBin o x y).map fun v => (v, isLst v)) = _
  simp only [R.map_bind]
theorem ev_neg {a : E} : evE cl (.neg a) env = (vl cl (.neg a) env).map (·, false) := by
  rw [vl_neg]
  show ((vl cl a env).bind fun x => (toI x).bind fun i => R.ok (Val.int (-i), false)) = _
  simp only [R.map_bind, R.map_ok]
theorem ev_cmp {o : COp} {a b : E} : evE cl (.cmp o a b) env = (vl cl (.cmp o a b) env).map (·, false) := by
  rw [vl_cmp]
  show ((vl cl a env).bind fun x => (vl cl b env).bind fun y => (evCmp o x y).map fun v => (v, false)) = _
  simp only [R.map_bind]
theorem ev_isn {n : Bool} {a : E} : evE cl (.isn n a) env = (vl cl (.isn n a) env).map (·, false) := by
  rw [vl_isn]
  show ((vl cl a env).bind fun x => R.ok (Val.bl (if n then !isNon x else isNon x), false)) = _
  simp only [R.map_bind, R.map_ok]
theorem ev_chn {o o' : COp} {a b c : E} : evE cl (.chn o o' a b c) env = (vl cl (.chn o o' a b c) env).map (·, false) := by
  show _ = ((evE cl (.chn o o' a b c) env).map (·.1)).map (·, false)
  have : ∀ p, evE cl (.chn o o' a b c) env = .ok p → p.2 = false := fun p h => by
    obtain ⟨x, _, h⟩ := R.bind_eq_ok (show ((vl cl a env).bind fun x => (vl cl b env).bind fun y => (evCmp o x y).bind fun z => (toB z).bind fun k => if k then (vl cl c env).bind fun w => (evCmp o' y w).map (·, false) else R.ok (Val.bl false, false)) = .ok p from h)
    obtain ⟨y, _, h⟩ := R.bind_eq_ok h
    obtain ⟨z, _, h⟩ := R.bind_eq_ok h
    obtain ⟨k, _, h⟩ := R.bind_eq_ok h
    split at h
    · obtain ⟨w, _, h⟩ := R.bind_eq_ok h
      cases e : evCmp o' y w <;> rw [e] at h <;> cases h; rfl
    · cases h; rfl
  cases e : evE cl (.chn o o' a b c) env with
  | ok p => obtain ⟨v, f⟩ := p; cases (this _ e); rfl
  | exc c => rfl
  | bad => rfl
theorem ev_flag {e : E} (h : ∀ p, evE cl e env = .ok p → p.2 = false) (hb : ∀ i, e ≠ .bor i) : evE cl e env = (vl cl e env).map (·, false) := by
  have : vl cl e env = (evE cl e env).map (·.1) := by
    unfold vl opd
    split
    · rename_i i; exact absurd rfl (hb i)
    · rfl
  rw [this]
  cases e1 : evE cl e env with
  | ok p => obtain ⟨v, f⟩ := p; cases (h _ e1); rfl
  | exc c => rfl
  | bad => rfl
theorem ev_inn {n : Bool} {a b : E} : evE cl (.inn n a b) env = (vl cl (.inn n a b) env).map (·, false) := by
  rw [vl_inn]
  show ((vl cl a env).bind fun x => (vl cl b env).bind fun y => (evIn n x y).map fun v => (v, false)) = _
  simp only [R.map_bind]
theorem ev_and {a b : E} : evE cl (.and a b) env = (vl cl (.and a b) env).map (·, false) := ev_flag (fun p h => by
  obtain ⟨x, _, h⟩ := R.bind_eq_ok (show ((vl cl a env).bind fun x => (toB x).bind fun k => if k then (vl cl b env).bind fun y => (toB y).bind fun k' => R.ok (Val.bl k', false) else R.ok (Val.bl false, false)) = .ok p from h)
  obtain ⟨k, _, h⟩ := R.bind_eq_ok h
  split at h
  · obtain ⟨w, _, h⟩ := R.bind_eq_ok h
    obtain ⟨w, _, h⟩ := R.bind_eq_ok h
    cases h; rfl
  · cases h; rfl) (by intro i z; cases z)
theorem ev_or {a b : E} : evE cl (.or a b) env = (vl cl (.or a b) env).map (·, false) := ev_flag (fun p h => by
  obtain ⟨x, _, h⟩ := R.bind_eq_ok (show ((vl cl a env).bind fun x => (toB x).bind fun k => if k then R.ok (Val.bl true, false) else (vl cl b env).bind fun y => (toB y).bind fun k' => R.ok (Val.bl k', false)) = .ok p from h)
  obtain ⟨k, _, h⟩ := R.bind_eq_ok h
  split at h
  · cases h; rfl
  · obtain ⟨w, _, h⟩ := R.bind_eq_ok h
    obtain ⟨w, _, h⟩ := R.bind_eq_ok h
    cases h; rfl) (by intro i z; cases z)
theorem ev_not {a : E} : evE cl (.not a) env = (vl cl (.not a) env).map (·, false) := by
  rw [vl_not]
  show ((vl cl a env).bind fun x => (toB x).bind fun k => R.ok (Val.bl (!k), false)) = _
  simp only [R.map_bind, R.map_ok]
theorem ev_ifx {c a b : E} : evE cl (.ifx c a b) env = (vl cl (.ifx c a b) env).map (·, false) := ev_flag (fun p h => by
  obtain ⟨x, _, h⟩ := R.bind_eq_ok (show ((vl cl c env).bind fun x => (truth x).bind fun k => if k then (evE cl a env).map fun p => (p.1, false) else (evE cl b env).map fun p => (p.1, false)) = .ok p from h)
  obtain ⟨k, _, h⟩ := R.bind_eq_ok h
  split at h
  · cases e : evE cl a env <;> rw [e] at h <;> cases h; rfl
  · cases e : evE cl b env <;> rw [e] at h <;> cases h; rfl) (by intro i z; cases z)
theorem ev_ix {a b : E} : evE cl (.ix a b) env = (vl cl (.ix a b) env).map (·, false) := by
  rw [vl_ix]
  show ((vl cl a env).bind fun x => (vl cl b env).bind fun y => (evIx x y).map fun v => (v, false)) = _
  simp only [R.map_bind]
theorem ev_slc {a : E} {lo hi : Option E} : evE cl (.slc a lo hi) env = (vl cl (.slc a lo hi) env).map fun v => (v, isLst v) := by
  rw [vl_slc]
  show ((vl cl a env).bind fun x => (evO cl lo env).bind fun l => (evO cl hi env).bind fun h => (evSlc l h x).map fun v => (v, isLst v)) = _
  simp only [R.map_bind]
theorem ev_rev {a : E} : evE cl (.rev a) env = (vl cl (.rev a) env).map fun v => (v, isLst v) := by
  rw [vl_rev]
  show ((vl cl a env).bind fun x => (evRev x).map fun v => (v, isLst v)) = _
  simp only [R.map_bind]
theorem ev_tup {as : List E} : evE cl (.tup as) env = (evEs cl as env).bind fun vs => .ok (.tup vs, false) := rfl
theorem ev_lst {as : List E} : evE cl (.lst as) env = (evEs cl as env).bind fun vs => .ok (.lst vs, true) := rfl
theorem ev_call {f : Nat} {as : List E} : evE cl (.call f as) env = (evAs cl as env).bind fun vs => evCall cl env f as vs := rfl
theorem ev_dl {ks vs : List Val} : evE cl (.dl ks vs) env = if okDl ks vs = true then .ok (.dk ks vs, true) else .bad := rfl
theorem ev_get {a b : E} : evE cl (.get a b) env = (vl cl (.get a b) env).map (·, false) := by
  rw [vl_get]
  show ((vl cl a env).bind fun x => (R.guard (isDct x)).bind fun _ => (vl cl b env).bind fun y => (evGet x y).map (·, false)) = _
  simp only [R.map_bind]
theorem ev_cax {e : E} {ks : List Nat} {as : List E} : evE cl (.cax e ks as) env = (evE cl e env).bind fun p => (fnOf ks p.1).bind fun k => (evAs cl as env).bind fun vs => evCall cl env k as vs := rfl
theorem ev_cal {i : Nat} {ks : List Nat} {as : List E} : evE cl (.cal i ks as) env = (fnAt env i ks).bind fun k => (evAs cl as env).bind fun vs => evCall cl env k as vs := rfl
theorem ev_fnv {k : Nat} : evE cl (.fnv k) env = .ok (.fn k, false) := rfl
theorem ev_blt {f : Bf} {as : List E} : evE cl (.blt f as) env = (vl cl (.blt f as) env).map fun v => (v, isLst v) := by
  rw [vl_blt]
  show ((evAs cl as env).bind fun vs => (evBf f vs).map fun v => (v, isLst v)) = _
  simp only [R.map_bind]
theorem ev_isi {a : E} {cs : List Cl} : evE cl (.isi a cs) env = (vl cl (.isi a cs) env).map (·, false) := by
  rw [vl_isi]
  show ((vl cl a env).bind fun x => (isiA x cs).bind fun b => R.ok (Val.bl b, false)) = _
  simp only [R.map_bind, R.map_ok]
theorem ev_ls {a : E} : evE cl (.ls a) env = (vl cl (.ls a) env).map (·, false) := by
  rw [vl_ls]
  show ((vl cl a env).bind fun x => (evLs x).map (·, false)) = _
  rw [R.map_bind]
theorem ev_smb {a : E} : evE cl (.sm a) env = (vl cl (.sm a) env).map (·, false) := by
  rw [vl_sm]
  show ((vl cl a env).bind fun x => (evSm x).map (·, false)) = _
  rw [R.map_bind]
theorem ev_jn {a : E} {s : Str} : evE cl (.jn s a) env = (vl cl (.jn s a) env).map (·, false) := by
  rw [vl_jn]
  show ((vl cl a env).bind fun x => (evJn s x).map (·, false)) = _
  rw [R.map_bind]
theorem ev_sp {a : E} {s : Str} : evE cl (.sp a s) env = (vl cl (.sp a s) env).map (·, true) := by
  rw [vl_sp]
  show ((vl cl a env).bind fun x => (evSp s x).map (·, true)) = _
  rw [R.map_bind]
theorem ev_pt {a : E} {s : Str} : evE cl (.pt a s) env = (vl cl (.pt a s) env).map (·, false) := by
  rw [vl_pt]
  show ((vl cl a env).bind fun x => (evPt s x).map (·, false)) = _
  rw [R.map_bind]
theorem ev_lc {tg : Tg} {it : It} {cond : Option E} {el : E} : evE cl (.lc tg it cond el) env = (lcR cl (evIt cl it env) tg cond el env).map (·, true) := by
  show ((evIt cl it env).bind fun xs => if !lenOk xs.length then .bad else (lcLoop tg (wipeE env (tgs tg)) (fun env' => (evC cl cond env').noexc) (fun env' => ((evE cl el env').map (·.1)).noexc) xs).bind fun vs => R.ok (Val.lst vs, true)) = _
  unfold lcR
  simp only [R.map_bind]
  congr; funext xs
  split <;> simp only [R.map_bind, R.map_ok, R.map_bad]
theorem evEs_nil : evEs cl [] env = .ok [] := rfl
theorem evEs_cons {e : E} {es : List E} : evEs cl (e :: es) env = (evE cl e env).bind fun p => (evEs cl es env).bind fun vs => .ok (p.1 :: vs) := rfl
theorem evAs_nil : evAs cl [] env = .ok [] := rfl
theorem evAs_cons {e : E} {es : List E} : evAs cl (e :: es) env = (vl cl e env).bind fun v => (evAs cl es env).bind fun vs => .ok (v :: vs) := rfl
theorem evO_none : evO cl none env = .ok none := rfl
theorem evO_some {e : E} : evO cl (some e) env = (vl cl e env).bind fun x => (toI x).map some := rfl
theorem evC_none : evC cl none env = .ok true := rfl
theorem evC_some {e : E} : evC cl (some e) env = (vl cl e env).bind truth := rfl
theorem evIt_val {e : E} : evIt cl (.val e) env = (vl cl e env).bind itemsOf := rfl
theorem evIt_rng1 {a : E} : evIt cl (.rng1 a) env = (vl cl a env).bind fun x => (toI x).bind fun n => if rngOk n = true then .ok (rngV 0 n.toNat) else .bad := rfl
theorem evIt_rng2 {a b : E} : evIt cl (.rng2 a b) env = (vl cl a env).bind fun x => (vl cl b env).bind fun y => (toI x).bind fun m => (toI y).bind fun n => if (rngOk m && rngOk n) = true then .ok (rngV m (n - m).toNat) else .bad := rfl
theorem evIt_rvd {e : E} : evIt cl (.rvd e) env = (vl cl e env).bind fun x => (itemsR x).map List.reverse := rfl
theorem evIt_zip {a b : E} : evIt cl (.zip a b) env = (vl cl a env).bind fun x => (vl cl b env).bind fun y => zipV x y := rfl
theorem evT_vl {e : E} : evT cl e env = (vl cl e env).bind truth := rfl
theorem andR_t {b : E} : andR cl (.ok (.bl true)) b env = (vl cl b env).bind fun y => (toB y).bind fun k' => .ok (.bl k') := rfl
theorem andR_f {b : E} : andR cl (.ok (.bl false)) b env = .ok (.bl false) := rfl
theorem orR_f {b : E} : orR cl (.ok (.bl false)) b env = (vl cl b env).bind fun y => (toB y).bind fun k' => .ok (.bl k') := rfl
theorem orR_t {b : E} : orR cl (.ok (.bl true)) b env = .ok (.bl true) := rfl
theorem ifxR_t {a b : E} : ifxR cl (.ok (.bl true)) a b env = (evE cl a env).map (·.1) := rfl
theorem ifxR_f {a b : E} : ifxR cl (.ok (.bl false)) a b env = (evE cl b env).map (·.1) := rfl
theorem chnR_t {o' : COp} {y : Val} {c : E} : chnR cl (.ok (.bl true)) o' y c env = (vl cl c env).bind fun w => evCmp o' y w := rfl
theorem chnR_f {o' : COp} {y : Val} {c : E} : chnR cl (.ok (.bl false)) o' y c env = .ok (.bl false) := rfl
noncomputable def thnS (cl : Nat → List Val → R (Val × Bool)) (o : O) (ss : List S) : O := match o with
  | .nx env => evSs cl ss env
  | o => o
noncomputable def ifO (cl : Nat → List Val → R (Val × Bool)) (r : R Bool) (a b : List S) (env : Env) : O := rO env r fun k => if k then evSs cl a env else evSs cl b env
noncomputable def forO (cl : Nat → List Val → R (Val × Bool)) (r : R (List Val)) (tg : Tg) (b : List S) (env : Env) : O := rO env r fun xs => forL tg (fun env' => evSs cl b env') xs env
noncomputable def whlO (cl : Nat → List Val → R (Val × Bool)) (c : E) (b : List S) (env : Env) : O := whl (fun env' => evT cl c env') (fun env' => evSs cl b env') env
def setO (r : R (Val × Bool)) (i : Nat) (env : Env) : O := rO env r fun p => .nx (put env i p.1 p.2)
def unpO (r : R (Val × Bool)) (is : List Nat) (env : Env) : O := rO env r fun p => match bindT (.tup is) env p.1 with
    | .ok env' => .nx env'
    | _ => .bad
noncomputable def tryO (cl : Nat → List Val → R (Val × Bool)) (o : O) (c n : Nat) (h : List S) : O := match o with
    | .exc x env' => if excSub x c then (match evSs cl h (put env' n (.exc x) false) with
      | .nx env2 => .nx (env2.set n none)
      | .ret v fr => .ret v fr
      | _ => .bad) else .exc x env'
    | o => o
theorem ss_nil' : evSs cl [] env = .nx env := rfl
theorem ss_cons' {s : S} {ss : List S} : evSs cl (s :: ss) env = thnS cl (evS cl s env) ss := by
  show (match evS cl s env with | .nx env' => evSs cl ss env' | o => o) = _
  unfold thnS
  cases evS cl s env <;> rfl
theorem thn_nx {ss : List S} : thnS cl (.nx env) ss = evSs cl ss env := rfl
theorem thn_ret {ss : List S} {v : Val} {f : Bool} : thnS cl (.ret v f) ss = .ret v f := rfl
theorem thn_exc {ss : List S} {c : Nat} : thnS cl (.exc c env) ss = .exc c env := rfl
theorem thn_bad {ss : List S} : thnS cl .bad ss = .bad := rfl
theorem s_set' {i : Nat} {e : E} : evS cl (.set i e) env = setO (evE cl e (frzE env e)) i (frzE env e) := rfl
theorem set_ok {v : Val} {f : Bool} {i : Nat} : setO (.ok (v, f)) i env = .nx (put env i v f) := rfl
theorem set_exc {c i : Nat} : setO (.exc c) i env = .exc c env := rfl
theorem s_unp' {is : List Nat} {e : E} : evS cl (.unp is e) env = unpO (evE cl e (frzE env e)) is (frzE env e) := rfl
theorem unp_ok {p : Val × Bool} {is : List Nat} : unpO (.ok p) is env = match bindT (.tup is) env p.1 with | .ok env' => .nx env' | _ => .bad := rfl
theorem s_ifs' {c : E} {a b : List S} : evS cl (.ifs c a b) env = ifO cl (evT cl c (frzE env c)) a b (frzE env c) := rfl
theorem if_t {a b : List S} : ifO cl (.ok true) a b env = evSs cl a env := rfl
theorem if_f {a b : List S} : ifO cl (.ok false) a b env = evSs cl b env := rfl
theorem s_for' {tg : Tg} {it : It} {b : List S} : evS cl (.for tg it b) env = if borI it = true then .bad else forO cl (evIt cl it (frzI env it)) tg b (frzI env it) := rfl
theorem for_ok {tg : Tg} {b : List S} {xs : List Val} : forO cl (.ok xs) tg b env = forL tg (fun env' => evSs cl b env') xs env := rfl
theorem s_whl' {c : E} {b : List S} : evS cl (.whl c b) env = whlO cl c b (frzE env c) := rfl
theorem s_ret' {e : E} : evS cl (.ret e) env = rO env (evRet cl e env) fun p => .ret p.1 p.2 := rfl
theorem s_retn' : evS cl .retn env = .ret .non false := rfl
theorem s_pass' : evS cl .pass env = .nx env := rfl
theorem s_rse' {c : Nat} : evS cl (.rse c) env = .exc c env := rfl
theorem s_exp' {e : E} : evS cl (.exp e) env = rO (frzE env e) (evE cl e (frzE env e)) fun _ => .nx (frzE env e) := rfl
theorem s_try' {b : List S} {c n : Nat} {h : List S} : evS cl (.trya b c n h) env = tryO cl (evSs cl b env) c n h := by
  unfold tryO
  show (match evSs cl b env with
    | O.exc x env' => if excSub x c then (match evSs cl h (put env' n (.exc x) false) with
      | O.nx env2 => O.nx (env2.set n none)
      | O.ret v fr => O.ret v fr
      | _ => O.bad) else O.exc x env'
    | o => o : O) = _
  cases evSs cl b env <;> rfl
theorem try_nx {c n : Nat} {h : List S} : tryO cl (.nx env) c n h = .nx env := rfl
theorem try_ret {c n : Nat} {h : List S} {v : Val} {f : Bool} : tryO cl (.ret v f) c n h = .ret v f := rfl
theorem try_exc {x c n : Nat} {h : List S} : tryO cl (.exc x env) c n h = if excSub x c = true then (match evSs cl h (put env n (.exc x) false) with
      | .nx env2 => .nx (env2.set n none)
      | .ret v fr => .ret v fr
      | _ => .bad) else .exc x env := rfl
theorem s_par' {i j : Nat} {a b : E} : evS cl (.par i j a b) env = rO (frzAll env (kept a ++ kept b)) (evEs cl [a, b] (frzAll env (kept a ++ kept b))) fun vs => match vs with
    | [x, y] => if i = j then .bad else .nx (put (put (frzAll env (kept a ++ kept b)) i x false) j y false)
    | _ => .bad := rfl
theorem s_par3' {i j k : Nat} {a b c : E} : evS cl (.par3 i j k a b c) env = rO (frzAll env (kept a ++ kept b ++ kept c)) (evEs cl [a, b, c] (frzAll env (kept a ++ kept b ++ kept c))) fun vs => match vs with
    | [x, y, z] => if i = j ∨ i = k ∨ j = k then .bad else .nx (put (put (put (frzAll env (kept a ++ kept b ++ kept c)) i x false) j y false) k z false)
    | _ => .bad := rfl
theorem s_six' {i : Nat} {k e : E} : evS cl (.six i k e) env = rO (frzE env e) (evE cl e (frzE env e)) fun p => rO (frzE env e) (ownL (frzE env e) i) fun xs => rO (frzE env e) ((vl cl k (frzE env e)).bind toI) fun k => rO (frzE env e) (ixPut xs k p.1) fun ys => .nx (put (frzE env e) i (.lst ys) true) := rfl
theorem s_dnew' {i : Nat} : evS cl (.dnew i) env = .nx (put env i (.dct []) true) := rfl
def dputO (env : Env) (i : Nat) (kvs : List (List Int × FV)) : Option (List Int) → Option FV → O
  | some ks, some v => if lenOk (kvs.length + 1) = true then .nx (put env i (.dct (dput kvs ks v)) true) else .bad
  | _, _ => .bad
theorem s_dput' {i : Nat} {k e : E} : evS cl (.dput i k e) env = rO (frzE env e) (evE cl e (frzE env e)) fun p => rO (frzE env e) (ownD (frzE env e) i) fun kvs => rO (frzE env e) (vl cl k (frzE env e)) fun kv => dputO (frzE env e) i kvs (keyOf kv) (FV.of p.1) := by
  refine congrArg (rO _ _) (funext fun p => congrArg (rO _ _) (funext fun kvs => congrArg (rO _ _) (funext fun kv => ?_)))
  cases keyOf kv <;> cases FV.of p.1 <;> rfl
def kputO (env : Env) (i : Nat) (d : List Val × List Val) (kv v : Val) : O := if (isK kv && noL v && lenOk (d.1.length + 1)) = true then .nx (put env i (.dk (dkP d.1 d.2 kv v).1 (dkP d.1 d.2 kv v).2) true) else .bad
theorem s_kput' {i : Nat} {k e : E} : evS cl (.kput i k e) env = rO (frzE env e) (evE cl e (frzE env e)) fun p => rO (frzE env e) (ownK (frzE env e) i) fun d => rO (frzE env e) (vl cl k (frzE env e)) fun kv => kputO (frzE env e) i d kv p.1 := rfl
theorem s_app' {i : Nat} {e : E} : evS cl (.app i e) env = rO (frzE env e) (ownL (frzE env e) i) fun xs => rO (frzE env e) (evE cl e (frzE env e)) fun p => if lenOk (xs.length + 1) = true then .nx (put (frzE env e) i (.lst (xs ++ [p.1])) true) else .bad := rfl
theorem s_pop' {i : Nat} : evS cl (.pop i) env = rO env (ownL env i) fun xs => if xs.isEmpty = true then .bad else .nx (put env i (.lst xs.dropLast) true) := rfl
theorem s_popu' {is : List Nat} {i : Nat} : evS cl (.popu is i) env = rO env (ownL env i) fun xs => match xs.getLast? with
    | some v => if i ∈ is then .bad else match bindT (.tup is) (put env i (.lst xs.dropLast) true) v with
      | .ok env' => .nx env'
      | _ => .bad
    | none => .bad := rfl
theorem s_popi' {j i : Nat} {k : Int} : evS cl (.popi j i k) env = rO env (ownL env i) fun xs => match xs.getLast? with
    | some v => if i = j then .bad else rO env (evIx v (.int k)) fun u => .nx (put (put env i (.lst xs.dropLast) true) j u false)
    | none => .bad := rfl
theorem s_rev' {i : Nat} : evS cl (.rev i) env = rO env (ownL env i) fun xs => .nx (put env i (.lst xs.reverse) true) := rfl
theorem s_ins' {i : Nat} {k e : E} : evS cl (.ins i k e) env = rO (frzE env e) (ownL (frzE env e) i) fun xs => rO (frzE env e) ((vl cl k (frzE env e)).bind toI) fun k => rO (frzE env e) (evE cl e (frzE env e)) fun p => if (lenOk (xs.length + 1) && decide (0 ≤ k ∧ k ≤ 1000000)) = true then .nx (put (frzE env e) i (.lst (xs.take k.toNat ++ [p.1] ++ xs.drop k.toNat)) true) else .bad := rfl
theorem s_clr' {i : Nat} : evS cl (.clr i) env = rO env (ownL env i) fun _ => .nx (put env i (.lst []) true) := rfl
theorem rO_ok {α : Type} {a : α} {f : α → O} : rO env (.ok a) f = f a := rfl
theorem rO_exc {α : Type} {c : Nat} {f : α → O} : rO env (.exc c) f = .exc c env := rfl
theorem ret_nm {i : Nat} : evRet cl (.nm i) env = match env[i]? with | some (some p) => .ok p | _ => .bad := rfl
theorem ret_bor {i : Nat} : evRet cl (.bor i) env = evE cl (.bor i) (frzE env (.bor i)) := rfl
theorem ret_cst {v : Val} : evRet cl (.cst v) env = evE cl (.cst v) (frzE env (.cst v)) := rfl
theorem ret_bin {o : BOp} {a b : E} : evRet cl (.bin o a b) env = evE cl (.bin o a b) (frzE env (.bin o a b)) := rfl
theorem ret_neg {a : E} : evRet cl (.neg a) env = evE cl (.neg a) (frzE env (.neg a)) := rfl
theorem ret_cmp {o : COp} {a b : E} : evRet cl (.cmp o a b) env = evE cl (.cmp o a b) (frzE env (.cmp o a b)) := rfl
theorem ret_isn {n : Bool} {a : E} : evRet cl (.isn n a) env = evE cl (.isn n a) (frzE env (.isn n a)) := rfl
theorem ret_chn {o o' : COp} {a b c : E} : evRet cl (.chn o o' a b c) env = evE cl (.chn o o' a b c) (frzE env (.chn o o' a b c)) := rfl
theorem ret_inn {n : Bool} {a b : E} : evRet cl (.inn n a b) env = evE cl (.inn n a b) (frzE env (.inn n a b)) := rfl
theorem ret_and {a b : E} : evRet cl (.and a b) env = evE cl (.and a b) (frzE env (.and a b)) := rfl
theorem ret_or {a b : E} : evRet cl (.or a b) env = evE cl (.or a b) (frzE env (.or a b)) := rfl
theorem ret_not {a : E} : evRet cl (.not a) env = evE cl (.not a) (frzE env (.not a)) := rfl
theorem ret_ifx {c a b : E} : evRet cl (.ifx c a b) env = evE cl (.ifx c a b) (frzE env (.ifx c a b)) := rfl
theorem ret_ix {a b : E} : evRet cl (.ix a b) env = evE cl (.ix a b) (frzE env (.ix a b)) := rfl
theorem ret_slc {a : E} {lo hi : Option E} : evRet cl (.slc a lo hi) env = evE cl (.slc a lo hi) (frzE env (.slc a lo hi)) := rfl
theorem ret_rev {a : E} : evRet cl (.rev a) env = evE cl (.rev a) (frzE env (.rev a)) := rfl
theorem ret_tup {as : List E} : evRet cl (.tup as) env = evE cl (.tup as) (frzE env (.tup as)) := rfl
theorem ret_lst {as : List E} : evRet cl (.lst as) env = evE cl (.lst as) (frzE env (.lst as)) := rfl
theorem ret_cal {i : Nat} {ks : List Nat} {as : List E} : evRet cl (.cal i ks as) env = evE cl (.cal i ks as) (frzE env (.cal i ks as)) := rfl
theorem ret_dl {ks vs : List Val} : evRet cl (.dl ks vs) env = evE cl (.dl ks vs) (frzE env (.dl ks vs)) := rfl
theorem ret_get {a b : E} : evRet cl (.get a b) env = evE cl (.get a b) (frzE env (.get a b)) := rfl
theorem ret_cax {e : E} {ks : List Nat} {as : List E} : evRet cl (.cax e ks as) env = evE cl (.cax e ks as) (frzE env (.cax e ks as)) := rfl
theorem ret_call {f : Nat} {as : List E} : evRet cl (.call f as) env = evE cl (.call f as) (frzE env (.call f as)) := rfl
theorem ret_blt {f : Bf} {as : List E} : evRet cl (.blt f as) env = evE cl (.blt f as) (frzE env (.blt f as)) := rfl
theorem ret_isi {a : E} {cs : List Cl} : evRet cl (.isi a cs) env = evE cl (.isi a cs) (frzE env (.isi a cs)) := rfl
theorem ret_ls {a : E} : evRet cl (.ls a) env = evE cl (.ls a) (frzE env (.ls a)) := rfl
theorem ret_sm {a : E} : evRet cl (.sm a) env = evE cl (.sm a) (frzE env (.sm a)) := rfl
theorem ret_jn {a : E} {s : Str} : evRet cl (.jn s a) env = evE cl (.jn s a) (frzE env (.jn s a)) := rfl
theorem ret_sp {a : E} {s : Str} : evRet cl (.sp a s) env = evE cl (.sp a s) (frzE env (.sp a s)) := rfl
theorem ret_pt {a : E} {s : Str} : evRet cl (.pt a s) env = evE cl (.pt a s) (frzE env (.pt a s)) := rfl
theorem ret_lc {tg : Tg} {it : It} {c : Option E} {e : E} : evRet cl (.lc tg it c e) env = evE cl (.lc tg it c e) (frzE env (.lc tg it c e)) := rfl
theorem fin_nx : fin (.nx env) = .ok (.non, false) := rfl
theorem fin_ret {v : Val} {f : Bool} : fin (.ret v f) = .ok (v, f) := rfl
theorem fin_exc {c : Nat} : fin (.exc c env) = .exc c := rfl
theorem b_add {i j : Int} : evBin .add (.int i) (.int j) = .ok (.int (i + j)) := rfl
theorem b_sub {i j : Int} : evBin .sub (.int i) (.int j) = .ok (.int (i - j)) := rfl
theorem b_mul {i j : Int} : evBin .mul (.int i) (.int j) = if mulOk i j = true then .ok (.int (i * j)) else .bad := rfl
theorem b_fdiv {i j : Int} : evBin .fdiv (.int i) (.int j) = if j = 0 then .bad else .ok (.int (i.fdiv j)) := rfl
theorem b_mod {i j : Int} : evBin .mod (.int i) (.int j) = if j = 0 then .bad else .ok (.int (i.fmod j)) := rfl
theorem b_pow {i j : Int} : evBin .pow (.int i) (.int j) = if powOk i j = true then .ok (.int (i ^ j.toNat)) else .bad := rfl
theorem b_addL {xs ys : List Val} : evBin .add (.lst xs) (.lst ys) = if lenOk (xs.length + ys.length) = true then .ok (.lst (xs ++ ys)) else .bad := rfl
theorem b_addT {xs ys : List Val} : evBin .add (.tup xs) (.tup ys) = if lenOk (xs.length + ys.length) = true then .ok (.tup (xs ++ ys)) else .bad := rfl
theorem b_mulL {xs : List Val} {k : Int} : evBin .mul (.lst xs) (.int k) = if (lenOk (xs.length * k.toNat) && decide (-1000000 ≤ k ∧ k ≤ 1000000)) = true then .ok (.lst (List.replicate k.toNat xs).flatten) else .bad := rfl
theorem c_lt {i j : Int} : evCmp .lt (.int i) (.int j) = .ok (.bl (decide (i < j))) := rfl
theorem c_le {i j : Int} : evCmp .le (.int i) (.int j) = .ok (.bl (decide (i ≤ j))) := rfl
theorem c_gt {i j : Int} : evCmp .gt (.int i) (.int j) = .ok (.bl (decide (j < i))) := rfl
theorem c_ge {i j : Int} : evCmp .ge (.int i) (.int j) = .ok (.bl (decide (j ≤ i))) := rfl
theorem c_is {a b : Bool} : evCmp .is (.bl a) (.bl b) = .ok (.bl (decide (a = b))) := rfl
theorem c_isnt {a b : Bool} : evCmp .isnt (.bl a) (.bl b) = .ok (.bl (!decide (a = b))) := rfl
theorem truth_bl {b : Bool} : truth (.bl b) = .ok b := rfl
theorem toI_int {i : Int} : toI (.int i) = .ok i := rfl
theorem toB_bl {b : Bool} : toB (.bl b) = .ok b := rfl
theorem itemsR_lst {xs : List Val} : itemsR (.lst xs) = .ok xs := rfl
theorem itemsR_tup {xs : List Val} : itemsR (.tup xs) = .ok xs := rfl
theorem b_addS {a b : Str} : evBin .add (.str a) (.str b) = if lenOk (a.length + b.length) = true then .ok (.str (a ++ b)) else .bad := rfl
theorem items_lst {xs : List Val} : itemsOf (.lst xs) = .ok xs := rfl
theorem items_tup {xs : List Val} : itemsOf (.tup xs) = .ok xs := rfl
theorem len_lst {xs : List Val} : evBf .len [.lst xs] = .ok (.int xs.length) := rfl
theorem len_tup {xs : List Val} : evBf .len [.tup xs] = .ok (.int xs.length) := rfl
theorem len_scr {xs : List Int} : evBf .len [.scr xs] = .ok (.int xs.length) := rfl
theorem abs_int {i : Int} : evBf .abs [.int i] = .ok (.int (if i < 0 then -i else i)) := rfl
theorem int_int {i : Int} : evBf .int [.int i] = .ok (.int i) := rfl
theorem int_bl {b : Bool} : evBf .int [.bl b] = .ok (.int (if b = true then 1 else 0)) := rfl
theorem list_lst {xs : List Val} : evBf .list [.lst xs] = .ok (.lst xs) := rfl
theorem list_tup {xs : List Val} : evBf .list [.tup xs] = .ok (.lst xs) := rfl
theorem list_scr {ns : List Int} : evBf .list [.scr ns] = .ok (.lst (ns.map .int)) := rfl
theorem tuple_lst {xs : List Val} : evBf .tuple [.lst xs] = .ok (.tup xs) := rfl
theorem tuple_tup {xs : List Val} : evBf .tuple [.tup xs] = .ok (.tup xs) := rfl
theorem max_int {i j : Int} : evBf .max2 [.int i, .int j] = .ok (.int (if j > i then j else i)) := rfl
theorem min_int {i j : Int} : evBf .min2 [.int i, .int j] = .ok (.int (if j < i then j else i)) := rfl
theorem ix_tup {xs : List Val} {i : Int} : evIx (.tup xs) (.int i) = ofO (L2.atI xs i) := rfl
theorem ix_p0 {a b : Val} : evIx (.tup [a, b]) (.int 0) = .ok a := rfl
theorem ix_p1 {a b : Val} : evIx (.tup [a, b]) (.int 1) = .ok b := rfl
theorem okD_int {i : Int} : okD (.int i) = true := rfl
theorem eqv_int {i j : Int} : PyData.eqv (.int i) (.int j) = decide (i = j) := by
  first
    | rfl
    | simp [PyData.eqv]
theorem c_eqI {i j : Int} : evCmp .eq (.int i) (.int j) = .ok (.bl (decide (i = j))) := by
  show (if (okD (.int i) && okD (.int j)) = true then R.ok (Val.bl (PyData.eqv (dat (.int i)) (dat (.int j)))) else .bad) = _
  rw [okD_int, okD_int]
  show R.ok (Val.bl (PyData.eqv (.int i) (.int j))) = _
  rw [eqv_int]
theorem c_neI {i j : Int} : evCmp .ne (.int i) (.int j) = .ok (.bl (!decide (i = j))) := by
  show (if (okD (.int i) && okD (.int j)) = true then R.ok (Val.bl (!PyData.eqv (dat (.int i)) (dat (.int j)))) else .bad) = _
  rw [okD_int, okD_int]
  show R.ok (Val.bl (!PyData.eqv (.int i) (.int j))) = _
  rw [eqv_int]
theorem whlN_more {c : Env → R Bool} {b : Env → O} : ∀ {n : Nat} {env : Env} {o : O}, whlN c b n env = some o → whlN c b (n + 1) env = some o
  | 0, _, _, h => by cases h
  | n + 1, env, o, h => by
    unfold whlN at h ⊢
    cases e : c env with
    | ok k =>
      rw [e] at h
      cases k with
      | false => exact h
      | true =>
        dsimp only at h ⊢
        cases e2 : b env with
        | nx env' => rw [e2] at h; exact whlN_more h
        | cnt env' => rw [e2] at h; exact whlN_more h
        | brk env' => rw [e2] at h; exact h
        | ret v f => rw [e2] at h; exact h
        | rtn vs => rw [e2] at h; exact h
        | exc x env' => rw [e2] at h; exact h
        | bad => rw [e2] at h; exact h
    | exc x => rw [e] at h; exact h
    | bad => rw [e] at h; exact h
theorem whlN_le {c : Env → R Bool} {b : Env → O} {env : Env} {o : O} {m n : Nat} (l : m ≤ n) (h : whlN c b m env = some o) : whlN c b n env = some o := by
  induction l with
  | refl => exact h
  | step _ ih => exact whlN_more ih
theorem whl_eq {c : Env → R Bool} {b : Env → O} {env : Env} {o : O} {n : Nat} (h : whlN c b n env = some o) : whl c b env = o := by
  have hx : ∃ n o, whlN c b n env = some o := ⟨n, o, h⟩
  unfold whl
  rw [dif_pos hx]
  have h2 := Classical.choose_spec (Classical.choose_spec hx)
  have h3 := whlN_le (Nat.le_max_left (Classical.choose hx) n) h2
  have h4 := whlN_le (Nat.le_max_right (Classical.choose hx) n) h
  rw [h3] at h4
  exact Option.some.inj h4
theorem whl_no {c : Env → R Bool} {b : Env → O} {env : Env} (h : ¬ ∃ n o, whlN c b n env = some o) : whl c b env = .bad := by
  unfold whl; rw [dif_neg h]
theorem whl_f {c : Env → R Bool} {b : Env → O} {env : Env} (h : c env = .ok false) : whl c b env = .nx env := whl_eq (n := 1) (by unfold whlN; rw [h])
theorem whl_t {c : Env → R Bool} {b : Env → O} {env env' : Env} (h : c env = .ok true) (hb : b env = .nx env') : whl c b env = whl c b env' := by
  by_cases hx : ∃ n o, whlN c b n env' = some o
  · obtain ⟨n, o, e⟩ := hx
    rw [whl_eq e]
    exact whl_eq (n := n + 1) (by unfold whlN; rw [h, hb]; exact e)
  · rw [whl_no hx]
    refine whl_no fun ⟨n, o, e⟩ => ?_
    cases n with
    | zero => cases e
    | succ n => unfold whlN at e; rw [h, hb] at e; exact hx ⟨n, o, e⟩
theorem whlO_f {c : E} {b : List S} (h : evT cl c env = .ok false) : whlO cl c b env = .nx env := whl_f h
theorem whlO_t {c : E} {b : List S} {env' : Env} (h : evT cl c env = .ok true) (hb : evSs cl b env = .nx env') : whlO cl c b env = whlO cl c b env' := whl_t h hb
theorem forL_nil {tg : Tg} {b : Env → O} : forL tg b [] env = .nx env := rfl
theorem forL_cons {tg : Tg} {b : Env → O} {x : Val} {xs : List Val} {env1 env' : Env} (h1 : bindT tg env x = .ok env1) (h2 : b env1 = .nx env') : forL tg b (x :: xs) env = forL tg b xs env' := by
  show (match bindT tg env x with | .ok env1 => (match b env1 with | .nx env' => forL tg b xs env' | .cnt env' => forL tg b xs env' | .brk env' => .nx env' | o => o) | _ => .bad) = _
  rw [h1]; dsimp only; rw [h2]
theorem lc_nil {tg : Tg} {c : Env → R Bool} {f : Env → R Val} : lcLoop tg env c f [] = .ok [] := rfl
end
theorem isLst_int {i : Int} : isLst (.int i) = false := rfl
theorem isLst_bl {b : Bool} : isLst (.bl b) = false := rfl
theorem isLst_str {s : Str} : isLst (.str s) = false := rfl
theorem isLst_tup {xs : List Val} : isLst (.tup xs) = false := rfl
theorem isLst_non  : isLst (.non) = false := rfl
theorem isLst_scr {ns : List Int} : isLst (.scr ns) = false := rfl
theorem isLst_exc {c : Nat} : isLst (.exc c) = false := rfl
theorem isLst_lst {xs : List Val} : isLst (.lst xs) = true := rfl
theorem isNon_int {i : Int} : isNon (.int i) = false := rfl
theorem isNon_bl {b : Bool} : isNon (.bl b) = false := rfl
theorem isNon_str {s : Str} : isNon (.str s) = false := rfl
theorem isNon_tup {xs : List Val} : isNon (.tup xs) = false := rfl
theorem isNon_non  : isNon (.non) = true := rfl
theorem isNon_scr {ns : List Int} : isNon (.scr ns) = false := rfl
theorem isNon_exc {c : Nat} : isNon (.exc c) = false := rfl
theorem isNon_lst {xs : List Val} : isNon (.lst xs) = false := rfl
theorem pow_ev {j : Int} {n : Nat} (hj : j = n) (hn : n ≤ 1000) : evBin .pow (.int 10) (.int j) = .ok (.int (10 ^ n)) := by
  subst hj
  have : powOk 10 n = true := decide_eq_true ⟨by omega, by omega, by decide⟩
  rw [b_pow, if_pos this]; rfl
theorem p11 : evBin .pow (.int 10) (.int 11) = .ok (.int (10 ^ 11)) := pow_ev rfl (by decide)
theorem p12 : evBin .pow (.int 10) (.int 12) = .ok (.int (10 ^ 12)) := pow_ev rfl (by decide)
theorem p30 : evBin .pow (.int 10) (.int 30) = .ok (.int (10 ^ 30)) := pow_ev rfl (by decide)
theorem p42 : evBin .pow (.int 10) (.int 42) = .ok (.int (10 ^ 42)) := pow_ev rfl (by decide)
theorem p57 : evBin .pow (.int 10) (.int 57) = .ok (.int (10 ^ 57)) := pow_ev rfl (by decide)
theorem p59 : evBin .pow (.int 10) (.int 59) = .ok (.int (10 ^ 59)) := pow_ev rfl (by decide)
theorem is_tup_tuple {xs : List Val} : isiA (.tup xs) [.ty "tuple"] = .ok true := rfl
theorem is_tup_list {xs : List Val} : isiA (.tup xs) [.ty "list"] = .ok false := rfl
theorem is_tup_int {xs : List Val} : isiA (.tup xs) [.ty "int"] = .ok false := rfl
theorem is_tup_bool {xs : List Val} : isiA (.tup xs) [.ty "bool"] = .ok false := rfl
theorem is_tup_str {xs : List Val} : isiA (.tup xs) [.ty "str"] = .ok false := rfl
theorem is_lst_tuple {xs : List Val} : isiA (.lst xs) [.ty "tuple"] = .ok false := rfl
theorem is_lst_list {xs : List Val} : isiA (.lst xs) [.ty "list"] = .ok true := rfl
theorem is_lst_int {xs : List Val} : isiA (.lst xs) [.ty "int"] = .ok false := rfl
theorem is_lst_bool {xs : List Val} : isiA (.lst xs) [.ty "bool"] = .ok false := rfl
theorem is_lst_str {xs : List Val} : isiA (.lst xs) [.ty "str"] = .ok false := rfl
theorem is_int_tuple {i : Int} : isiA (.int i) [.ty "tuple"] = .ok false := rfl
theorem is_int_list {i : Int} : isiA (.int i) [.ty "list"] = .ok false := rfl
theorem is_int_int {i : Int} : isiA (.int i) [.ty "int"] = .ok true := rfl
theorem is_int_bool {i : Int} : isiA (.int i) [.ty "bool"] = .ok false := rfl
theorem is_int_str {i : Int} : isiA (.int i) [.ty "str"] = .ok false := rfl
theorem is_bl_tuple {b : Bool} : isiA (.bl b) [.ty "tuple"] = .ok false := rfl
theorem is_bl_list {b : Bool} : isiA (.bl b) [.ty "list"] = .ok false := rfl
theorem is_bl_int {b : Bool} : isiA (.bl b) [.ty "int"] = .ok true := rfl
theorem is_bl_bool {b : Bool} : isiA (.bl b) [.ty "bool"] = .ok true := rfl
theorem is_bl_str {b : Bool} : isiA (.bl b) [.ty "str"] = .ok false := rfl
theorem is_str_tuple {s : Str} : isiA (.str s) [.ty "tuple"] = .ok false := rfl
theorem is_str_list {s : Str} : isiA (.str s) [.ty "list"] = .ok false := rfl
theorem is_str_int {s : Str} : isiA (.str s) [.ty "int"] = .ok false := rfl
theorem is_str_bool {s : Str} : isiA (.str s) [.ty "bool"] = .ok false := rfl
theorem is_str_str {s : Str} : isiA (.str s) [.ty "str"] = .ok true := rfl
theorem is_non_tuple  : isiA (.non) [.ty "tuple"] = .ok false := rfl
theorem is_non_list  : isiA (.non) [.ty "list"] = .ok false := rfl
theorem is_non_int  : isiA (.non) [.ty "int"] = .ok false := rfl
theorem is_non_bool  : isiA (.non) [.ty "bool"] = .ok false := rfl
theorem is_non_str  : isiA (.non) [.ty "str"] = .ok false := rfl
def forS (r : R Env) (tg : Tg) (b : Env → O) (xs : List Val) : O := match r with
  | .ok env1 => (match b env1 with
    | .nx env' => forL tg b xs env'
    | .cnt env' => forL tg b xs env'
    | .brk env' => .nx env'
    | o => o)
  | _ => .bad
def forB (o : O) (tg : Tg) (b : Env → O) (xs : List Val) : O := match o with
    | .nx env' => forL tg b xs env'
    | .cnt env' => forL tg b xs env'
    | .brk env' => .nx env'
    | o => o
theorem forL_c {tg : Tg} {b : Env → O} {x : Val} {xs : List Val} {env : Env} : forL tg b (x :: xs) env = forS (bindT tg env x) tg b xs := rfl
theorem forS_ok {tg : Tg} {b : Env → O} {xs : List Val} {env : Env} : forS (.ok env) tg b xs = forB (b env) tg b xs := rfl
theorem forB_nx {tg : Tg} {b : Env → O} {xs : List Val} {env : Env} : forB (.nx env) tg b xs = forL tg b xs env := rfl
theorem forB_ret {tg : Tg} {b : Env → O} {xs : List Val} {v : Val} {f : Bool} : forB (.ret v f) tg b xs = .ret v f := rfl
theorem lcR_ok {cl : Nat → List Val → R (Val × Bool)} {xs : List Val} {tg : Tg} {cond : Option E} {el : E} {env : Env} : lcR cl (.ok xs) tg cond el env = if lenOk xs.length = true then (lcLoop tg (wipeE env (tgs tg)) (fun env' => (evC cl cond env').noexc) (fun env' => (vlE cl el env').noexc) xs).bind fun vs => .ok (.lst vs) else .bad := by
  show (if (!lenOk xs.length) = true then R.bad else _) = _
  cases lenOk xs.length <;> rfl
theorem lc_cons {tg : Tg} {c : Env → R Bool} {f : Env → R Val} {x : Val} {xs : List Val} {env : Env} : lcLoop tg env c f (x :: xs) = (bindT tg env x).bind fun env' => (c env').bind fun b => if b = true then (f env').bind fun v => (lcLoop tg env c f xs).bind fun vs => .ok (v :: vs) else lcLoop tg env c f xs := rfl
theorem vlE_d {cl : Nat → List Val → R (Val × Bool)} {e : E} {env : Env} : vlE cl e env = (evE cl e env).map (·.1) := rfl
theorem lenOk_lit {n : Nat} (h : n ≤ 1000000) : lenOk n = true := decide_eq_true (Nat.le_trans h (by decide))
theorem lenOk3 : lenOk 3 = true := rfl
theorem lenOk2 : lenOk 2 = true := rfl
theorem lenOk1 : lenOk 1 = true := rfl
theorem lenOk0 : lenOk 0 = true := rfl
theorem wipe1 {env : Env} {i : Nat} : wipeE env (tgs (.one i)) = env.set i none := rfl
theorem wipe2 {env : Env} {i j : Nat} : wipeE env (tgs (.tup [i, j])) = (env.set j none).set i none := rfl
theorem bind_one {i : Nat} {env : Env} {v : Val} : bindT (.one i) env v = .ok (put env i v false) := rfl
theorem bind_tup {is : List Nat} {env : Env} {vs : List Val} : bindT (.tup is) env (.tup vs) = if vs.length = is.length then putAll env is vs else .bad := rfl
theorem rngV_succ (k : Int) (m : Nat) : rngV k (m + 1) = .int k :: rngV (k + 1) m := by
  unfold rngV
  rw [List.range_succ_eq_map, List.map_cons, List.map_map]
  congr 1
  · simp
  · apply List.map_congr_left
    intro i _
    show Val.int (k + ((i + 1 : Nat) : Int)) = .int (k + 1 + i)
    congr 1; omega
theorem ss_app {cl : Nat → List Val → R (Val × Bool)} : ∀ {a b : List S} {env : Env}, evSs cl (a ++ b) env = thnS cl (evSs cl a env) b
  | [], _, _ => rfl
  | s :: a, b, env => by
    rw [List.cons_append, ss_cons', ss_cons']
    cases evS cl s env with
    | nx env' => rw [thn_nx, thn_nx, ss_app]
    | _ => rfl
def ownDS : Option (Option (Val × Bool)) → R (List (List Int × FV))
  | some (some (.dct kvs, true)) => .ok kvs
  | _ => .bad
theorem ownD_s {env : Env} {i : Nat} : ownD env i = ownDS env[i]? := by
  unfold ownD ownDS
  cases env[i]? with
  | none => rfl
  | some o =>
    cases o with
    | none => rfl
    | some p =>
      obtain ⟨v, b⟩ := p
      cases v <;> cases b <;> rfl
def ownKS : Option (Option (Val × Bool)) → R (List Val × List Val)
  | some (some (.dk ks vs, true)) => .ok (ks, vs)
  | _ => .bad
theorem ownK_s {env : Env} {i : Nat} : ownK env i = ownKS env[i]? := by
  unfold ownK ownKS
  cases env[i]? with
  | none => rfl
  | some o =>
    cases o with
    | none => rfl
    | some p =>
      obtain ⟨v, b⟩ := p
      cases v <;> cases b <;> rfl
theorem ownKS_dk {ks vs : List Val} : ownKS (some (some (.dk ks vs, true))) = .ok (ks, vs) := rfl
theorem guard_dct {kvs : List (List Int × FV)} : R.guard (isDct (.dct kvs)) = .ok () := rfl
theorem ownDS_dct {kvs : List (List Int × FV)} : ownDS (some (some (.dct kvs, true))) = .ok kvs := rfl
theorem dputO_ok {env : Env} {i : Nat} {kvs : List (List Int × FV)} {ks : List Int} {v : FV} : dputO env i kvs (some ks) (some v) = if lenOk (kvs.length + 1) = true then .nx (put env i (.dct (dput kvs ks v)) true) else .bad := rfl
theorem FV_int {i : Int} : FV.of (.int i) = some (.int i) := rfl
def ownS : Option (Option (Val × Bool)) → R (List Val)
  | some (some (.lst xs, true)) => .ok xs
  | _ => .bad
theorem ownL_s {env : Env} {i : Nat} : ownL env i = ownS env[i]? := by
  unfold ownL ownS
  rfl
theorem ownS_lst {xs : List Val} : ownS (some (some (.lst xs, true))) = .ok xs := rfl
end G

set_option linter.all false
set_option maxHeartbeats 1000000
set_option maxRecDepth 10000
namespace G
open PySem
local macro_rules | `(tactic| walk_at "ev") => `(tactic| simp only [vl_nm, vl_bor, vl_cst, vl_bin, vl_neg, vl_cmp, vl_isn, vl_chn, vl_inn, vl_and, vl_or, vl_not, vl_ifx, vl_ix, vl_slc, vl_rev, vl_tup, vl_lst, vl_call, vl_cal, vl_dl, vl_get, vl_cax, vl_fnv, vl_blt, vl_isi, vl_ls, vl_sm, vl_jn, vl_pt, vl_sp, vl_lc, ev_nm, ev_cst, ev_bin, ev_neg, ev_cmp, ev_isn, ev_chn, ev_inn, ev_and, ev_or, ev_not, ev_ifx, ev_ix, ev_slc, ev_rev, ev_tup, ev_lst, ev_call, ev_cal, ev_dl, ev_get, ev_cax, ev_fnv, ev_blt, ev_isi, ev_ls, ev_smb, ev_jn, ev_pt, ev_sp, ev_lc, evEs_nil, evEs_cons, evAs_nil, evAs_cons, evO_none, evO_some, evC_none, evC_some, evIt_val, evIt_rng1, evIt_rng2, evIt_rvd, evIt_zip, evT_vl, andR_t, andR_f, orR_f, orR_t, ifxR_t, ifxR_f, chnR_t, chnR_f, ss_nil', ss_cons', thn_nx, thn_ret, thn_exc, thn_bad, s_set', set_ok, set_exc, s_unp', unp_ok, s_ifs', if_t, if_f, s_for', for_ok, s_whl', s_ret', s_retn', s_pass', s_rse', s_exp', s_try', try_nx, try_ret, try_exc, s_par', s_par3', s_six', s_dnew', s_dput', s_kput', ownK_s, ownKS_dk, guard_dct, ownD_s, ownDS_dct, dputO_ok, FV_int, s_app', s_pop', s_popu', s_popi', s_rev', s_ins', s_clr', rO_ok, rO_exc, ret_nm, ret_bor, ret_cst, ret_bin, ret_neg, ret_cmp, ret_isn, ret_chn, ret_inn, ret_and, ret_or, ret_not, ret_ifx, ret_ix, ret_slc, ret_rev, ret_tup, ret_lst, ret_call, ret_cal, ret_dl, ret_get, ret_cax, ret_blt, ret_isi, ret_ls, ret_sm, ret_jn, ret_pt, ret_sp, ret_lc, fin_nx, fin_ret, fin_exc, b_add, b_sub, b_mul, b_fdiv, b_mod, p11, p12, p30, p42, p57, p59, b_addL, b_addS, b_addT, b_mulL, c_lt, c_le, c_gt, c_ge, c_is, c_isnt, truth_bl, toI_int, toB_bl, items_lst, itemsR_lst, itemsR_tup, items_tup, len_lst, len_tup, len_scr, abs_int, int_int, int_bl, list_lst, list_tup, list_scr, tuple_lst, tuple_tup, max_int, min_int, ix_p0, ix_p1, c_eqI, c_neI, startE, frzE, frzI, frzAll, frz, kept, keptL, keptO, keptI, put, look, lookF, ownL_s, ownS_lst, evCall, lent, borI, bind_one, bind_tup, putAll, isLst_int, isLst_bl, isLst_str, isLst_tup, isLst_non, isLst_scr, isLst_exc, isLst_lst, isNon_int, isNon_bl, isNon_str, isNon_tup, isNon_non, isNon_scr, isNon_exc, isNon_lst, R.bind_ok, R.bind_exc, R.map_ok, R.map_exc, List.map_cons, List.map_nil, List.length_cons, List.length_nil, List.replicate, List.cons_append, List.nil_append, List.append_nil, List.getElem?_cons_zero, List.getElem?_cons_succ, List.set_cons_zero, List.set_cons_succ, Bool.false_and, Bool.true_and, Bool.and_true, Bool.and_false, Bool.or_false, Bool.false_or, Bool.or_true, Bool.true_or, Bool.not_true, Bool.not_false, decide_true, decide_false, if_true, if_false, ite_true, ite_false, reduceCtorEq, reduceIte, Nat.reduceAdd, Nat.reduceSub, Nat.reduceMul, Nat.reduceEqDiff, Int.reduceEq, Int.reduceLT, Int.reduceLE, Int.reduceNe, Int.reduceNeg, Int.reduceAdd, Int.reduceMul, Int.reduceSub, Nat.reduceLT, Nat.reduceLeDiff, Int.reduceGT, Int.reduceGE, is_tup_tuple, is_tup_list, is_tup_int, is_tup_bool, is_tup_str, is_lst_tuple, is_lst_list, is_lst_int, is_lst_bool, is_lst_str, is_int_tuple, is_int_list, is_int_int, is_int_bool, is_int_str, is_bl_tuple, is_bl_list, is_bl_int, is_bl_bool, is_bl_str, is_str_tuple, is_str_list, is_str_int, is_str_bool, is_str_str, is_non_tuple, is_non_list, is_non_int, is_non_bool, is_non_str, forL_c, forS_ok, forB_nx, forB_ret, forL_nil, lc_nil, Int.cast_ofNat_Int, lcR_ok, lc_cons, vlE_d, lenOk0, lenOk1, lenOk2, lenOk3, wipe1, wipe2, R.noexc_ok, decide_eq_true_eq, eq_self])
local macro_rules | `(tactic| walk_at "evh") => `(tactic| simp only [vl_nm, vl_bor, vl_cst, vl_bin, vl_neg, vl_cmp, vl_isn, vl_chn, vl_inn, vl_and, vl_or, vl_not, vl_ifx, vl_ix, vl_slc, vl_rev, vl_tup, vl_lst, vl_call, vl_cal, vl_dl, vl_get, vl_cax, vl_fnv, vl_blt, vl_isi, vl_ls, vl_sm, vl_jn, vl_pt, vl_sp, vl_lc, ev_nm, ev_cst, ev_bin, ev_neg, ev_cmp, ev_isn, ev_chn, ev_inn, ev_and, ev_or, ev_not, ev_ifx, ev_ix, ev_slc, ev_rev, ev_tup, ev_lst, ev_call, ev_cal, ev_dl, ev_get, ev_cax, ev_fnv, ev_blt, ev_isi, ev_ls, ev_smb, ev_jn, ev_pt, ev_sp, ev_lc, evEs_nil, evEs_cons, evAs_nil, evAs_cons, evO_none, evO_some, evC_none, evC_some, evIt_val, evIt_rng1, evIt_rng2, evIt_rvd, evIt_zip, evT_vl, andR_t, andR_f, orR_f, orR_t, ifxR_t, ifxR_f, chnR_t, chnR_f, ss_nil', ss_cons', thn_nx, thn_ret, thn_exc, thn_bad, s_set', set_ok, set_exc, s_unp', unp_ok, s_ifs', if_t, if_f, s_for', for_ok, s_whl', s_ret', s_retn', s_pass', s_rse', s_exp', s_try', try_nx, try_ret, try_exc, s_par', s_par3', s_six', s_dnew', s_dput', s_kput', ownK_s, ownKS_dk, guard_dct, ownD_s, ownDS_dct, dputO_ok, FV_int, s_app', s_pop', s_popu', s_popi', s_rev', s_ins', s_clr', rO_ok, rO_exc, ret_nm, ret_bor, ret_cst, ret_bin, ret_neg, ret_cmp, ret_isn, ret_chn, ret_inn, ret_and, ret_or, ret_not, ret_ifx, ret_ix, ret_slc, ret_rev, ret_tup, ret_lst, ret_call, ret_cal, ret_dl, ret_get, ret_cax, ret_blt, ret_isi, ret_ls, ret_sm, ret_jn, ret_pt, ret_sp, ret_lc, fin_nx, fin_ret, fin_exc, b_add, b_sub, b_mul, b_fdiv, b_mod, p11, p12, p30, p42, p57, p59, b_addL, b_addS, b_addT, b_mulL, c_lt, c_le, c_gt, c_ge, c_is, c_isnt, truth_bl, toI_int, toB_bl, items_lst, itemsR_lst, itemsR_tup, items_tup, len_lst, len_tup, len_scr, abs_int, int_int, int_bl, list_lst, list_tup, list_scr, tuple_lst, tuple_tup, max_int, min_int, ix_p0, ix_p1, c_eqI, c_neI, startE, frzE, frzI, frzAll, frz, kept, keptL, keptO, keptI, put, look, lookF, ownL_s, ownS_lst, evCall, lent, borI, bind_one, bind_tup, putAll, isLst_int, isLst_bl, isLst_str, isLst_tup, isLst_non, isLst_scr, isLst_exc, isLst_lst, isNon_int, isNon_bl, isNon_str, isNon_tup, isNon_non, isNon_scr, isNon_exc, isNon_lst, R.bind_ok, R.bind_exc, R.map_ok, R.map_exc, List.map_cons, List.map_nil, List.length_cons, List.length_nil, List.replicate, List.cons_append, List.nil_append, List.append_nil, List.getElem?_cons_zero, List.getElem?_cons_succ, List.set_cons_zero, List.set_cons_succ, Bool.false_and, Bool.true_and, Bool.and_true, Bool.and_false, Bool.or_false, Bool.false_or, Bool.or_true, Bool.true_or, Bool.not_true, Bool.not_false, decide_true, decide_false, if_true, if_false, ite_true, ite_false, reduceCtorEq, reduceIte, Nat.reduceAdd, Nat.reduceSub, Nat.reduceMul, Nat.reduceEqDiff, Int.reduceEq, Int.reduceLT, Int.reduceLE, Int.reduceNe, Int.reduceNeg, Int.reduceAdd, Int.reduceMul, Int.reduceSub, Nat.reduceLT, Nat.reduceLeDiff, Int.reduceGT, Int.reduceGE, is_tup_tuple, is_tup_list, is_tup_int, is_tup_bool, is_tup_str, is_lst_tuple, is_lst_list, is_lst_int, is_lst_bool, is_lst_str, is_int_tuple, is_int_list, is_int_int, is_int_bool, is_int_str, is_bl_tuple, is_bl_list, is_bl_int, is_bl_bool, is_bl_str, is_str_tuple, is_str_list, is_str_int, is_str_bool, is_str_str, is_non_tuple, is_non_list, is_non_int, is_non_bool, is_non_str, forL_c, forS_ok, forB_nx, forB_ret, forL_nil, lc_nil, Int.cast_ofNat_Int, lcR_ok, lc_cons, vlE_d, lenOk0, lenOk1, lenOk2, lenOk3, wipe1, wipe2, R.noexc_ok, decide_eq_true_eq, eq_self, *])
section
variable {FT : Nat → Option FD}
def nv (q : Rat) : Val := .tup [.int q.num, .int q.den]
def fd_divisor_of : FD := ⟨2, 2, [.whl (.cmp .gt (.bor 1) (.cst (.int 0))) [.par 0 1 (.nm 1) (.bin .mod (.bor 0) (.bor 1))], .ret (.nm 0)]⟩
def fd_number : FD := ⟨2, 3, [.ifs (.cmp .eq (.bor 1) (.cst (.int 0))) [.rse 1] [], .ifs (.cmp .lt (.bor 1) (.cst (.int 0))) [.set 0 (.neg (.bor 0)), .set 1 (.neg (.bor 1))] [], .set 2 (.call 0 [(.blt .abs [(.bor 0)]), (.nm 1)]), .ret (.tup [(.bin .fdiv (.bor 0) (.bor 2)), (.bin .fdiv (.bor 1) (.bor 2))])]⟩
def fd_sign : FD := ⟨1, 1, [.ret (.bin .sub (.blt .int [(.cmp .gt (.ix (.bor 0) (.cst (.int 0))) (.cst (.int 0)))]) (.blt .int [(.cmp .lt (.ix (.bor 0) (.cst (.int 0))) (.cst (.int 0)))]))]⟩
def fd_plus : FD := ⟨2, 2, [.ret (.call 1 [(.bin .add (.bin .mul (.ix (.bor 0) (.cst (.int 0))) (.ix (.bor 1) (.cst (.int 1)))) (.bin .mul (.ix (.bor 1) (.cst (.int 0))) (.ix (.bor 0) (.cst (.int 1))))), (.bin .mul (.ix (.bor 0) (.cst (.int 1))) (.ix (.bor 1) (.cst (.int 1))))])]⟩
def fd_minus : FD := ⟨2, 2, [.ret (.call 1 [(.bin .sub (.bin .mul (.ix (.bor 0) (.cst (.int 0))) (.ix (.bor 1) (.cst (.int 1)))) (.bin .mul (.ix (.bor 1) (.cst (.int 0))) (.ix (.bor 0) (.cst (.int 1))))), (.bin .mul (.ix (.bor 0) (.cst (.int 1))) (.ix (.bor 1) (.cst (.int 1))))])]⟩
def fd_times : FD := ⟨2, 2, [.ret (.call 1 [(.bin .mul (.ix (.bor 0) (.cst (.int 0))) (.ix (.bor 1) (.cst (.int 0)))), (.bin .mul (.ix (.bor 0) (.cst (.int 1))) (.ix (.bor 1) (.cst (.int 1))))])]⟩
def fd_over : FD := ⟨2, 2, [.ret (.call 1 [(.bin .mul (.ix (.bor 0) (.cst (.int 0))) (.ix (.bor 1) (.cst (.int 1)))), (.bin .mul (.ix (.bor 0) (.cst (.int 1))) (.ix (.bor 1) (.cst (.int 0))))])]⟩
theorem dv_loop {cl : Nat → List Val → R (Val × Bool)} : ∀ (n : Nat) (a b : Int), 0 ≤ a → 0 ≤ b → b.toNat ≤ n → whlO cl (.cmp .gt (.bor 1) (.cst (.int 0))) [.par 0 1 (.nm 1) (.bin .mod (.bor 0) (.bor 1))] [some (.int a, false), some (.int b, false)] = .nx [some (.int (Int.gcd a b), false), some (.int 0, false)] := fun n a b ha hb hn => by
  by_cases h : b = 0
  · subst h
    have e : (Int.gcd a 0 : Int) = a := by simp; omega
    rw [e]
    exact whlO_f (by walk_at "ev")
  · have h0 : (0 : Int) < b := by omega
    rw [whlO_t (env' := [some (.int b, false), some (.int (a.fmod b), false)]) (by walk_at "evh") (by walk_at "evh")]
    have h1 := Int.fmod_lt_of_pos a h0
    have h2 := Int.fmod_nonneg_of_pos a h0
    cases n with
    | zero => omega
    | succ n => rw [dv_loop n b (a.fmod b) hb h2 (by omega), gcd_fmod]
theorem callF_divisor (h0 : FT 0 = some fd_divisor_of) {n : Nat} {a b : Int} (ha : 0 ≤ a) (hb : 0 ≤ b) : callF FT (n + 1) 0 [.int a, .int b] = .ok (.int (Int.gcd a b), false) := by
  rw [callF_s h0 rfl]
  have e := dv_loop (cl := callF FT n) b.toNat a b ha hb (Nat.le_refl _)
  unfold fd_divisor_of
  walk_at "evh"
section
variable (h0 : FT 0 = some fd_divisor_of) (h1 : FT 1 = some fd_number)
include h0 h1
end
theorem callF_sign (h3 : FT 3 = some fd_sign) {n : Nat} {p : Rat} : callF FT (n + 1) 3 [nv p] = .ok (.int ((if 0 < p.num then 1 else 0) - (if p.num < 0 then 1 else 0)), false) := by
  rw [callF_s h3 rfl]
  unfold fd_sign nv
  walk_at "ev"
end
end G

set_option linter.all false
set_option maxHeartbeats 1000000
set_option maxRecDepth 10000
namespace G
open PySem
local macro_rules | `(tactic| walk_at "ev") => `(tactic| simp only [vl_nm, vl_bor, vl_cst, vl_bin, vl_neg, vl_cmp, vl_isn, vl_chn, vl_inn, vl_and, vl_or, vl_not, vl_ifx, vl_ix, vl_slc, vl_rev, vl_tup, vl_lst, vl_call, vl_cal, vl_dl, vl_get, vl_cax, vl_fnv, vl_blt, vl_isi, vl_ls, vl_sm, vl_jn, vl_pt, vl_sp, vl_lc, ev_nm, ev_cst, ev_bin, ev_neg, ev_cmp, ev_isn, ev_chn, ev_inn, ev_and, ev_or, ev_not, ev_ifx, ev_ix, ev_slc, ev_rev, ev_tup, ev_lst, ev_call, ev_cal, ev_dl, ev_get, ev_cax, ev_fnv, ev_blt, ev_isi, ev_ls, ev_smb, ev_jn, ev_pt, ev_sp, ev_lc, evEs_nil, evEs_cons, evAs_nil, evAs_cons, evO_none, evO_some, evC_none, evC_some, evIt_val, evIt_rng1, evIt_rng2, evIt_rvd, evIt_zip, evT_vl, andR_t, andR_f, orR_f, orR_t, ifxR_t, ifxR_f, chnR_t, chnR_f, ss_nil', ss_cons', thn_nx, thn_ret, thn_exc, thn_bad, s_set', set_ok, set_exc, s_unp', unp_ok, s_ifs', if_t, if_f, s_for', for_ok, s_whl', s_ret', s_retn', s_pass', s_rse', s_exp', s_try', try_nx, try_ret, try_exc, s_par', s_par3', s_six', s_dnew', s_dput', s_kput', ownK_s, ownKS_dk, guard_dct, ownD_s, ownDS_dct, dputO_ok, FV_int, s_app', s_pop', s_popu', s_popi', s_rev', s_ins', s_clr', rO_ok, rO_exc, ret_nm, ret_bor, ret_cst, ret_bin, ret_neg, ret_cmp, ret_isn, ret_chn, ret_inn, ret_and, ret_or, ret_not, ret_ifx, ret_ix, ret_slc, ret_rev, ret_tup, ret_lst, ret_call, ret_cal, ret_dl, ret_get, ret_cax, ret_blt, ret_isi, ret_ls, ret_sm, ret_jn, ret_pt, ret_sp, ret_lc, fin_nx, fin_ret, fin_exc, b_add, b_sub, b_mul, b_fdiv, b_mod, p11, p12, p30, p42, p57, p59, b_addL, b_addS, b_addT, b_mulL, c_lt, c_le, c_gt, c_ge, c_is, c_isnt, truth_bl, toI_int, toB_bl, items_lst, itemsR_lst, itemsR_tup, items_tup, len_lst, len_tup, len_scr, abs_int, int_int, int_bl, list_lst, list_tup, list_scr, tuple_lst, tuple_tup, max_int, min_int, ix_p0, ix_p1, c_eqI, c_neI, startE, frzE, frzI, frzAll, frz, kept, keptL, keptO, keptI, put, look, lookF, ownL_s, ownS_lst, evCall, lent, borI, bind_one, bind_tup, putAll, isLst_int, isLst_bl, isLst_str, isLst_tup, isLst_non, isLst_scr, isLst_exc, isLst_lst, isNon_int, isNon_bl, isNon_str, isNon_tup, isNon_non, isNon_scr, isNon_exc, isNon_lst, R.bind_ok, R.bind_exc, R.map_ok, R.map_exc, List.map_cons, List.map_nil, List.length_cons, List.length_nil, List.replicate, List.cons_append, List.nil_append, List.append_nil, List.getElem?_cons_zero, List.getElem?_cons_succ, List.set_cons_zero, List.set_cons_succ, Bool.false_and, Bool.true_and, Bool.and_true, Bool.and_false, Bool.or_false, Bool.false_or, Bool.or_true, Bool.true_or, Bool.not_true, Bool.not_false, decide_true, decide_false, if_true, if_false, ite_true, ite_false, reduceCtorEq, reduceIte, Nat.reduceAdd, Nat.reduceSub, Nat.reduceMul, Nat.reduceEqDiff, Int.reduceEq, Int.reduceLT, Int.reduceLE, Int.reduceNe, Int.reduceNeg, Int.reduceAdd, Int.reduceMul, Int.reduceSub, Nat.reduceLT, Nat.reduceLeDiff, Int.reduceGT, Int.reduceGE, is_tup_tuple, is_tup_list, is_tup_int, is_tup_bool, is_tup_str, is_lst_tuple, is_lst_list, is_lst_int, is_lst_bool, is_lst_str, is_int_tuple, is_int_list, is_int_int, is_int_bool, is_int_str, is_bl_tuple, is_bl_list, is_bl_int, is_bl_bool, is_bl_str, is_str_tuple, is_str_list, is_str_int, is_str_bool, is_str_str, is_non_tuple, is_non_list, is_non_int, is_non_bool, is_non_str, forL_c, forS_ok, forB_nx, forB_ret, forL_nil, lc_nil, Int.cast_ofNat_Int, lcR_ok, lc_cons, vlE_d, lenOk0, lenOk1, lenOk2, lenOk3, wipe1, wipe2, R.noexc_ok, decide_eq_true_eq, eq_self])
local macro_rules | `(tactic| walk_at "evh") => `(tactic| simp only [vl_nm, vl_bor, vl_cst, vl_bin, vl_neg, vl_cmp, vl_isn, vl_chn, vl_inn, vl_and, vl_or, vl_not, vl_ifx, vl_ix, vl_slc, vl_rev, vl_tup, vl_lst, vl_call, vl_cal, vl_dl, vl_get, vl_cax, vl_fnv, vl_blt, vl_isi, vl_ls, vl_sm, vl_jn, vl_pt, vl_sp, vl_lc, ev_nm, ev_cst, ev_bin, ev_neg, ev_cmp, ev_isn, ev_chn, ev_inn, ev_and, ev_or, ev_not, ev_ifx, ev_ix, ev_slc, ev_rev, ev_tup, ev_lst, ev_call, ev_cal, ev_dl, ev_get, ev_cax, ev_fnv, ev_blt, ev_isi, ev_ls, ev_smb, ev_jn, ev_pt, ev_sp, ev_lc, evEs_nil, evEs_cons, evAs_nil, evAs_cons, evO_none, evO_some, evC_none, evC_some, evIt_val, evIt_rng1, evIt_rng2, evIt_rvd, evIt_zip, evT_vl, andR_t, andR_f, orR_f, orR_t, ifxR_t, ifxR_f, chnR_t, chnR_f, ss_nil', ss_cons', thn_nx, thn_ret, thn_exc, thn_bad, s_set', set_ok, set_exc, s_unp', unp_ok, s_ifs', if_t, if_f, s_for', for_ok, s_whl', s_ret', s_retn', s_pass', s_rse', s_exp', s_try', try_nx, try_ret, try_exc, s_par', s_par3', s_six', s_dnew', s_dput', s_kput', ownK_s, ownKS_dk, guard_dct, ownD_s, ownDS_dct, dputO_ok, FV_int, s_app', s_pop', s_popu', s_popi', s_rev', s_ins', s_clr', rO_ok, rO_exc, ret_nm, ret_bor, ret_cst, ret_bin, ret_neg, ret_cmp, ret_isn, ret_chn, ret_inn, ret_and, ret_or, ret_not, ret_ifx, ret_ix, ret_slc, ret_rev, ret_tup, ret_lst, ret_call, ret_cal, ret_dl, ret_get, ret_cax, ret_blt, ret_isi, ret_ls, ret_sm, ret_jn, ret_pt, ret_sp, ret_lc, fin_nx, fin_ret, fin_exc, b_add, b_sub, b_mul, b_fdiv, b_mod, p11, p12, p30, p42, p57, p59, b_addL, b_addS, b_addT, b_mulL, c_lt, c_le, c_gt, c_ge, c_is, c_isnt, truth_bl, toI_int, toB_bl, items_lst, itemsR_lst, itemsR_tup, items_tup, len_lst, len_tup, len_scr, abs_int, int_int, int_bl, list_lst, list_tup, list_scr, tuple_lst, tuple_tup, max_int, min_int, ix_p0, ix_p1, c_eqI, c_neI, startE, frzE, frzI, frzAll, frz, kept, keptL, keptO, keptI, put, look, lookF, ownL_s, ownS_lst, evCall, lent, borI, bind_one, bind_tup, putAll, isLst_int, isLst_bl, isLst_str, isLst_tup, isLst_non, isLst_scr, isLst_exc, isLst_lst, isNon_int, isNon_bl, isNon_str, isNon_tup, isNon_non, isNon_scr, isNon_exc, isNon_lst, R.bind_ok, R.bind_exc, R.map_ok, R.map_exc, List.map_cons, List.map_nil, List.length_cons, List.length_nil, List.replicate, List.cons_append, List.nil_append, List.append_nil, List.getElem?_cons_zero, List.getElem?_cons_succ, List.set_cons_zero, List.set_cons_succ, Bool.false_and, Bool.true_and, Bool.and_true, Bool.and_false, Bool.or_false, Bool.false_or, Bool.or_true, Bool.true_or, Bool.not_true, Bool.not_false, decide_true, decide_false, if_true, if_false, ite_true, ite_false, reduceCtorEq, reduceIte, Nat.reduceAdd, Nat.reduceSub, Nat.reduceMul, Nat.reduceEqDiff, Int.reduceEq, Int.reduceLT, Int.reduceLE, Int.reduceNe, Int.reduceNeg, Int.reduceAdd, Int.reduceMul, Int.reduceSub, Nat.reduceLT, Nat.reduceLeDiff, Int.reduceGT, Int.reduceGE, is_tup_tuple, is_tup_list, is_tup_int, is_tup_bool, is_tup_str, is_lst_tuple, is_lst_list, is_lst_int, is_lst_bool, is_lst_str, is_int_tuple, is_int_list, is_int_int, is_int_bool, is_int_str, is_bl_tuple, is_bl_list, is_bl_int, is_bl_bool, is_bl_str, is_str_tuple, is_str_list, is_str_int, is_str_bool, is_str_str, is_non_tuple, is_non_list, is_non_int, is_non_bool, is_non_str, forL_c, forS_ok, forB_nx, forB_ret, forL_nil, lc_nil, Int.cast_ofNat_Int, lcR_ok, lc_cons, vlE_d, lenOk0, lenOk1, lenOk2, lenOk3, wipe1, wipe2, R.noexc_ok, decide_eq_true_eq, eq_self, *])
section
variable {FT : Nat → Option FD}
theorem atI_nn {α : Type} {xs : List α} {i : Int} (h0 : 0 ≤ i) (h1 : i < xs.length) : L2.atI xs i = xs[i.toNat]? := by
  unfold L2.atI L2.ixN
  rw [if_pos h0, if_pos h1]; rfl
theorem atI_ex {α : Type} {xs : List α} {i : Int} (h0 : 0 ≤ i) (h1 : i < xs.length) : ∃ x, L2.atI xs i = some x ∧ x ∈ xs := by
  rw [atI_nn h0 h1]
  have : i.toNat < xs.length := by omega
  exact ⟨xs[i.toNat], List.getElem?_eq_getElem this, List.getElem_mem this⟩
theorem fmod_bd (a : Int) {b : Int} (hb : 0 < b) : 0 ≤ a.fmod b ∧ a.fmod b < b := ⟨Int.fmod_nonneg_of_pos a hb, Int.fmod_lt_of_pos a hb⟩
def fd_law_mixed : FD := ⟨2, 3, [.set 2 (.cst (.int 7)), .ifs (.cmp .gt (.blt .len [(.bor 0)]) (.cst (.int 0))) [.set 2 (.ix (.bor 0) (.bin .mod (.bor 1) (.blt .len [(.bor 0)])))] [], .set 2 (.bin .mod (.bin .mul (.bin .add (.bin .add (.bin .mod (.bor 2) (.cst (.int 2147483629))) (.bin .mul (.cst (.int 6151)) (.bor 1))) (.cst (.int 1))) (.cst (.int 48271))) (.cst (.int 2147483647))), .ret (.bin .mod (.bin .mul (.bor 2) (.bin .add (.bin .add (.bin .mod (.bor 2) (.cst (.int 65519))) (.bor 1)) (.cst (.int 2)))) (.cst (.int 2147483629)))]⟩
def cellOf (ns : List Int) (k : Int) : Int := if 0 < ns.length then (L2.atI ns (k.fmod ns.length)).getD 0 else 7
def mx (ns : List Int) (k : Int) : Int :=
  ((((cellOf ns k).fmod 2147483629 + 6151 * k + 1) * 48271).fmod 2147483647 * (((((cellOf ns k).fmod 2147483629 + 6151 * k + 1) * 48271).fmod 2147483647).fmod 65519 + k + 2)).fmod 2147483629
theorem mx_bd (ns : List Int) (k : Int) : 0 ≤ mx ns k ∧ mx ns k < 2147483629 := fmod_bd _ (by decide)
theorem natAbs_lt_pow {a : Int} {n : Nat} (h : a < 2 ^ n) (h2 : -(2 ^ n) < a) : a.natAbs < 2 ^ n := by
  have : ((2 : Int) ^ n) = ((2 ^ n : Nat) : Int) := by simp
  omega
theorem mul_small {a b : Int} {m n : Nat} (ha : a.natAbs < 2 ^ m) (hb : b.natAbs < 2 ^ n) (l : m + n < 134000000) : mulOk a b = true := mul_ok ha hb l
theorem callF_mixed (h : FT 122 = some fd_law_mixed) {n : Nat} {ns : List Int} {k : Int} (k0 : 0 ≤ k) (k1 : k < 1000000) : callF FT (n + 1) 122 [.scr ns, .int k] = .ok (.int (mx ns k), false) := by
  rw [callF_s h rfl]
  have e1 : fin (evSs (callF FT n) [.set 2 (.bin .mod (.bin .mul (.bin .add (.bin .add (.bin .mod (.bor 2) (.cst (.int 2147483629))) (.bin .mul (.cst (.int 6151)) (.bor 1))) (.cst (.int 1))) (.cst (.int 48271))) (.cst (.int 2147483647))), .ret (.bin .mod (.bin .mul (.bor 2) (.bin .add (.bin .add (.bin .mod (.bor 2) (.cst (.int 65519))) (.bor 1)) (.cst (.int 2)))) (.cst (.int 2147483629)))]
      [some (.scr ns, false), some (.int k, false), some (.int (cellOf ns k), false)]) = .ok (.int (mx ns k), false) := by
    have b1 := fmod_bd (cellOf ns k) (b := 2147483629) (by decide)
    have m1 : mulOk 6151 k = true := mul_small (m := 13) (n := 20) (by decide) (natAbs_lt_pow (by omega) (by omega)) (by decide)
    have m2 : mulOk ((cellOf ns k).fmod 2147483629 + 6151 * k + 1) 48271 = true := mul_small (m := 34) (n := 16) (natAbs_lt_pow (by omega) (by omega)) (by decide) (by decide)
    have b2 := fmod_bd (((cellOf ns k).fmod 2147483629 + 6151 * k + 1) * 48271) (b := 2147483647) (by decide)
    have b3 := fmod_bd ((((cellOf ns k).fmod 2147483629 + 6151 * k + 1) * 48271).fmod 2147483647) (b := 65519) (by decide)
    have m3 : mulOk ((((cellOf ns k).fmod 2147483629 + 6151 * k + 1) * 48271).fmod 2147483647) (((((cellOf ns k).fmod 2147483629 + 6151 * k + 1) * 48271).fmod 2147483647).fmod 65519 + k + 2) = true :=
      mul_small (m := 31) (n := 21) (natAbs_lt_pow (by omega) (by omega)) (natAbs_lt_pow (by omega) (by omega)) (by decide)
    walk_at "evh"
    rfl
  generalize hr : ([.set 2 (.bin .mod (.bin .mul (.bin .add (.bin .add (.bin .mod (.bor 2) (.cst (.int 2147483629))) (.bin .mul (.cst (.int 6151)) (.bor 1))) (.cst (.int 1))) (.cst (.int 48271))) (.cst (.int 2147483647))), .ret (.bin .mod (.bin .mul (.bor 2) (.bin .add (.bin .add (.bin .mod (.bor 2) (.cst (.int 65519))) (.bor 1)) (.cst (.int 2)))) (.cst (.int 2147483629)))] : List S) = rest at e1
  have eb : fd_law_mixed.body = .set 2 (.cst (.int 7)) :: .ifs (.cmp .gt (.blt .len [(.bor 0)]) (.cst (.int 0))) [.set 2 (.ix (.bor 0) (.bin .mod (.bor 1) (.blt .len [(.bor 0)])))] [] :: rest := by rw [← hr]; rfl
  rw [eb, show fd_law_mixed.nl = 3 from rfl]
  by_cases h0 : 0 < ns.length
  · have hl : (0 : Int) < ns.length := by omega
    have hl2 : ¬ (ns.length : Int) = 0 := by omega
    have b := fmod_bd k hl
    obtain ⟨z, hz, _⟩ := atI_ex (xs := ns) b.1 b.2
    have ec : cellOf ns k = z := by unfold cellOf; rw [if_pos h0, hz]; rfl
    rw [ec] at e1
    have ez : ofO ((L2.atI ns (k.fmod ns.length)).map Val.int) = .ok (.int z) := by rw [hz]; rfl
    have ix : evIx (.scr ns) (.int (k.fmod ns.length)) = .ok (.int z) := ez
    clear hr eb
    walk_at "evh"
  · have hl : ¬ (0 : Int) < ns.length := by omega
    have ec : cellOf ns k = 7 := by unfold cellOf; rw [if_neg h0]
    rw [ec] at e1
    clear hr eb
    walk_at "evh"
end
end G

set_option linter.all false
set_option maxHeartbeats 1000000
set_option maxRecDepth 10000
namespace G
open PySem
structure Dn (n : Nat) (v : Val) : Prop where
  d : isD v = true
  l : (dat v).canLay0 = true
  h : (dat v).depth ≤ n
theorem Dn.mono {m n : Nat} {v : Val} (h : Dn m v) (l : m ≤ n) : Dn n v := ⟨h.d, h.l, Nat.le_trans h.h l⟩
theorem Dn.ok {n : Nat} {v : Val} (h : Dn n v) (l : n ≤ 64) : okD v = true := by
  unfold okD SeqAt.shaped
  rw [h.d, h.l, decide_eq_true (Nat.le_trans h.h l)]; rfl
theorem Dn.int {n : Nat} (i : Int) : Dn n (.int i) := ⟨rfl, rfl, Nat.zero_le _⟩
theorem Dn.bl {n : Nat} (b : Bool) : Dn n (.bl b) := ⟨rfl, rfl, Nat.zero_le _⟩
theorem Dn.non {n : Nat} : Dn n .non := ⟨rfl, rfl, Nat.zero_le _⟩
theorem Dn.all {n : Nat} : ∀ {xs : List Val}, (∀ x ∈ xs, Dn n x) → isDs xs = true ∧ PyData.canLayAll0 (dats xs) = true ∧ PyData.depthAll (dats xs) ≤ n
  | [], _ => ⟨rfl, rfl, Nat.zero_le _⟩
  | x :: xs, h => by
    obtain ⟨h1, h2, h3⟩ := Dn.all (xs := xs) fun y hy => h y (List.mem_cons_of_mem _ hy)
    have hx := h x List.mem_cons_self
    refine ⟨?_, ?_, ?_⟩
    · show (isD x && isDs xs) = true; rw [hx.d, h1]; rfl
    · show (PyData.canLay0 (dat x) && PyData.canLayAll0 (dats xs)) = true; rw [hx.l, h2]; rfl
    · show max (PyData.depth (dat x)) (PyData.depthAll (dats xs)) ≤ n; exact Nat.max_le.mpr ⟨hx.h, h3⟩
theorem Dn.tup {n : Nat} {xs : List Val} (h : ∀ x ∈ xs, Dn n x) : Dn (n + 1) (.tup xs) := by
  obtain ⟨h1, h2, h3⟩ := Dn.all h
  exact ⟨h1, h2, Nat.succ_le_succ h3⟩
theorem Dn.lst {n : Nat} {xs : List Val} (h : ∀ x ∈ xs, Dn n x) : Dn (n + 1) (.lst xs) := by
  obtain ⟨h1, h2, h3⟩ := Dn.all h
  exact ⟨h1, h2, Nat.succ_le_succ h3⟩
theorem Dn.nv (q : Rat) : Dn 1 (nv q) := Dn.tup (by
  intro x hx
  simp only [List.mem_cons, List.not_mem_nil, or_false] at hx
  rcases hx with rfl | rfl
  · exact .int _
  · exact .int _)
def vEq (a b : Val) : Bool := PyData.eqv (dat a) (dat b)
def vEqs (a b : List Val) : Bool := PyData.eqvAll (dats a) (dats b)
theorem c_eqV {m n : Nat} {a b : Val} (ha : Dn m a) (hb : Dn n b) (lm : m ≤ 64) (ln : n ≤ 64) : evCmp .eq a b = .ok (.bl (vEq a b)) := by
  show (if (okD a && okD b) = true then R.ok (Val.bl (PyData.eqv (dat a) (dat b))) else .bad) = _
  rw [ha.ok lm, hb.ok ln]; rfl
theorem c_neV {m n : Nat} {a b : Val} (ha : Dn m a) (hb : Dn n b) (lm : m ≤ 64) (ln : n ≤ 64) : evCmp .ne a b = .ok (.bl (!vEq a b)) := by
  show (if (okD a && okD b) = true then R.ok (Val.bl (!PyData.eqv (dat a) (dat b))) else .bad) = _
  rw [ha.ok lm, hb.ok ln]; rfl
theorem vEq_int {i j : Int} : vEq (.int i) (.int j) = decide (i = j) := eqv_int
theorem vEq_bl {a b : Bool} : vEq (.bl a) (.bl b) = decide (a = b) := by cases a <;> cases b <;> rfl
theorem vEq_tup {xs ys : List Val} : vEq (.tup xs) (.tup ys) = vEqs xs ys := rfl
theorem vEqs_nil : vEqs [] [] = true := rfl
theorem vEqs_cons {x y : Val} {xs ys : List Val} : vEqs (x :: xs) (y :: ys) = (vEq x y && vEqs xs ys) := rfl
theorem vEq_str {s t : Str} : vEq (.str s) (.str t) = (s == t) := rfl
theorem vEq_nv {p q : Rat} : vEq (nv p) (nv q) = decide (p = q) := by
  unfold nv
  rw [vEq_tup, vEqs_cons, vEqs_cons, vEqs_nil, vEq_int, vEq_int, Bool.and_true]
  by_cases h : p = q
  · subst h; simp
  · rw [decide_eq_false h]
    by_cases h1 : p.num = q.num
    · have : ¬ (p.den : Int) = q.den := fun h2 => h (Rat.ext h1 (by omega))
      rw [decide_eq_false this, Bool.and_false]
    · rw [decide_eq_false h1, Bool.false_and]
def cv (l : List Rat) : Val := .tup (l.map nv)
def lv (l : List Rat) : Val := .lst (l.map nv)
theorem vEqs_nv : ∀ {l m : List Rat}, vEqs (l.map nv) (m.map nv) = decide (l = m)
  | [], [] => rfl
  | [], _ :: _ => by rw [decide_eq_false (by simp)]; rfl
  | _ :: _, [] => by rw [decide_eq_false (by simp)]; rfl
  | p :: l, q :: m => by
    rw [List.map_cons, List.map_cons, vEqs_cons, vEq_nv, vEqs_nv]
    by_cases h1 : p = q
    · subst h1; simp
    · simp [h1]
theorem vEq_cv {l m : List Rat} : vEq (cv l) (cv m) = decide (l = m) := vEqs_nv
theorem vEq_lv {l m : List Rat} : vEq (lv l) (lv m) = decide (l = m) := vEqs_nv
theorem Dn.nvs {l : List Rat} : ∀ x ∈ l.map G.nv, Dn 1 x := by
  intro x hx
  obtain ⟨q, _, rfl⟩ := List.mem_map.mp hx
  exact .nv q
theorem Dn.cv (l : List Rat) : Dn 2 (cv l) := .tup Dn.nvs
theorem Dn.lv (l : List Rat) : Dn 2 (lv l) := .lst Dn.nvs
theorem c_eqN {p q : Rat} : evCmp .eq (nv p) (nv q) = .ok (.bl (decide (p = q))) := by rw [c_eqV (.nv p) (.nv q) (by decide) (by decide), vEq_nv]
theorem c_neN {p q : Rat} : evCmp .ne (nv p) (nv q) = .ok (.bl (!decide (p = q))) := by rw [c_neV (.nv p) (.nv q) (by decide) (by decide), vEq_nv]
theorem c_eqC {l m : List Rat} : evCmp .eq (cv l) (cv m) = .ok (.bl (decide (l = m))) := by rw [c_eqV (.cv l) (.cv m) (by decide) (by decide), vEq_cv]
theorem c_neC {l m : List Rat} : evCmp .ne (cv l) (cv m) = .ok (.bl (!decide (l = m))) := by rw [c_neV (.cv l) (.cv m) (by decide) (by decide), vEq_cv]
theorem c_eqL {l m : List Rat} : evCmp .eq (lv l) (lv m) = .ok (.bl (decide (l = m))) := by rw [c_eqV (.lv l) (.lv m) (by decide) (by decide), vEq_lv]
theorem c_neL {l m : List Rat} : evCmp .ne (lv l) (lv m) = .ok (.bl (!decide (l = m))) := by rw [c_neV (.lv l) (.lv m) (by decide) (by decide), vEq_lv]
theorem ix_nv0 {q : Rat} : evIx (nv q) (.int 0) = .ok (.int q.num) := rfl
theorem ix_nv1 {q : Rat} : evIx (nv q) (.int 1) = .ok (.int q.den) := rfl
theorem is_nv_tuple {q : Rat} : isiA (nv q) [.ty "tuple"] = .ok true := rfl
theorem is_cv_tuple {l : List Rat} : isiA (cv l) [.ty "tuple"] = .ok true := rfl
theorem is_lv_list {l : List Rat} : isiA (lv l) [.ty "list"] = .ok true := rfl
theorem is_lv_tuple {l : List Rat} : isiA (lv l) [.ty "tuple"] = .ok false := rfl
theorem is_cv_list {l : List Rat} : isiA (cv l) [.ty "list"] = .ok false := rfl
theorem isLst_nv {q : Rat} : isLst (nv q) = false := rfl
theorem isLst_cv {l : List Rat} : isLst (cv l) = false := rfl
theorem isLst_lv {l : List Rat} : isLst (lv l) = true := rfl
theorem isNon_nv {q : Rat} : isNon (nv q) = false := rfl
theorem isNon_cv {l : List Rat} : isNon (cv l) = false := rfl
theorem isNon_lv {l : List Rat} : isNon (lv l) = false := rfl
theorem bind_nv {q : Rat} {i j : Nat} {env : Env} : bindT (.tup [i, j]) env (nv q) = .ok (put (put env i (.int q.num) false) j (.int q.den) false) := rfl
theorem itemsR_cv {l : List Rat} : itemsR (cv l) = .ok (l.map nv) := rfl
theorem itemsR_lv {l : List Rat} : itemsR (lv l) = .ok (l.map nv) := rfl
theorem items_cv {l : List Rat} : itemsOf (cv l) = .ok (l.map nv) := rfl
theorem items_lv {l : List Rat} : itemsOf (lv l) = .ok (l.map nv) := rfl
theorem len_cv {l : List Rat} : evBf .len [cv l] = .ok (.int l.length) := by show R.ok (Val.int (l.map nv).length) = _; rw [List.length_map]
theorem len_lv {l : List Rat} : evBf .len [lv l] = .ok (.int l.length) := by show R.ok (Val.int (l.map nv).length) = _; rw [List.length_map]
theorem list_cv {l : List Rat} : evBf .list [cv l] = .ok (lv l) := rfl
theorem list_lv {l : List Rat} : evBf .list [lv l] = .ok (lv l) := rfl
theorem tuple_cv {l : List Rat} : evBf .tuple [cv l] = .ok (cv l) := rfl
theorem tuple_lv {l : List Rat} : evBf .tuple [lv l] = .ok (cv l) := rfl
theorem atI_mapF {α β : Type} (f : α → β) (xs : List α) (i : Int) : L2.atI (xs.map f) i = (L2.atI xs i).map f := by
  unfold L2.atI
  rw [List.length_map]
  cases L2.ixN xs.length i <;> simp
theorem ix_cv {l : List Rat} {i : Int} : evIx (cv l) (.int i) = ofO ((L2.atI l i).map nv) := by
  show ofO (L2.atI (l.map nv) i) = _
  rw [atI_mapF]
theorem ix_lv {l : List Rat} {i : Int} : evIx (lv l) (.int i) = ofO ((L2.atI l i).map nv) := by
  show ofO (L2.atI (l.map nv) i) = _
  rw [atI_mapF]
theorem ix_cvN {l : List Rat} {i : Int} {q : Rat} {k : Nat} (hi : i = k) (h : l[k]? = some q) : evIx (cv l) (.int i) = .ok (nv q) := by
  subst hi
  have := (List.getElem?_eq_some_iff.mp h).1
  rw [ix_cv, atI_nn (by omega) (by omega), Int.toNat_natCast, h]; rfl
theorem ix_lvN {l : List Rat} {i : Int} {q : Rat} {k : Nat} (hi : i = k) (h : l[k]? = some q) : evIx (lv l) (.int i) = .ok (nv q) := by
  subst hi
  have := (List.getElem?_eq_some_iff.mp h).1
  rw [ix_lv, atI_nn (by omega) (by omega), Int.toNat_natCast, h]; rfl
theorem nv01 : Val.tup [.int 0, .int 1] = nv 0 := rfl
theorem nv11 : Val.tup [.int 1, .int 1] = nv 1 := rfl
theorem cv_nil : Val.tup [] = cv [] := rfl
theorem cv_one {q : Rat} : Val.tup [nv q] = cv [q] := rfl
theorem add_lv {a b : List Rat} (h : a.length + b.length ≤ 1000000) : evBin .add (lv a) (lv b) = .ok (lv (a ++ b)) := by
  show (if lenOk ((a.map nv).length + (b.map nv).length) = true then R.ok (Val.lst (a.map nv ++ b.map nv)) else .bad) = _
  rw [List.length_map, List.length_map, if_pos (lenOk_lit h), ← List.map_append]; rfl
theorem rev_lv {l : List Rat} : evRev (lv l) = .ok (lv l.reverse) := by
  show R.ok (Val.lst (l.map nv).reverse) = _
  rw [← List.map_reverse]; rfl
theorem rev_cv {l : List Rat} : evRev (cv l) = .ok (cv l.reverse) := by
  show R.ok (Val.tup (l.map nv).reverse) = _
  rw [← List.map_reverse]; rfl
theorem lv_one {q : Rat} : Val.lst [nv q] = lv [q] := rfl
theorem lv_map {l : List Rat} : Val.lst (l.map nv) = lv l := rfl
theorem cv_map {l : List Rat} : Val.tup (l.map nv) = cv l := rfl
theorem lenOk_map {l : List Rat} : lenOk (l.map nv).length = lenOk l.length := by rw [List.length_map]
theorem ix_last {l : List Rat} {q : Rat} {L : Val} (hL : L = lv (l ++ [q]) ∨ L = cv (l ++ [q])) : evIx L (.int (-1)) = .ok (nv q) := by
  have h : L2.atI (l ++ [q]) (-1) = some q := by
    unfold L2.atI L2.ixN
    rw [if_neg (by decide), if_pos (by simp; omega)]
    show (l ++ [q])[((-1 : Int) + ((l ++ [q]).length : Int)).toNat]? = some q
    have : ((-1 : Int) + ((l ++ [q]).length : Int)).toNat = l.length := by simp; omega
    rw [this]; simp
  rcases hL with rfl | rfl
  · rw [ix_lv, h]; rfl
  · rw [ix_cv, h]; rfl
theorem lc_ex {tg : Tg} {env : Env} {c : Env → R Bool} {f : Env → R Val} {p : Nat → Rat → Prop} : ∀ (m : Nat) (lo : Int) (s : Nat), (∀ k : Nat, k < m → ∃ env1 q, bindT tg env (.int (lo + (s + k : Nat))) = .ok env1 ∧ c env1 = .ok true ∧ f env1 = .ok (nv q) ∧ p (s + k) q) → ∃ l : List Rat, l.length = m ∧ (∀ k q, l[k]? = some q → p (s + k) q) ∧ lcLoop tg env c f (rngV (lo + s) m) = .ok (l.map nv)
  | 0, lo, s, _ => ⟨[], rfl, by simp, rfl⟩
  | m + 1, lo, s, h => by
    obtain ⟨env1, q, h1, h2, h3, h4⟩ := h 0 (Nat.succ_pos m)
    obtain ⟨l, e1, e2, e3⟩ := lc_ex (p := p) m lo (s + 1) fun k hk => by
      obtain ⟨env2, q, g1, g2, g3, g4⟩ := h (k + 1) (by omega)
      exact ⟨env2, q, by rw [show s + 1 + k = s + (k + 1) by omega]; exact g1, g2, g3, by rw [show s + 1 + k = s + (k + 1) by omega]; exact g4⟩
    refine ⟨q :: l, by simp [e1], fun k r hk => ?_, ?_⟩
    · cases k with
      | zero => cases hk; exact h4
      | succ k => have := e2 k r hk; rw [show s + 1 + k = s + (k + 1) by omega] at this; exact this
    · have h1 : bindT tg env (.int (lo + (s : Int))) = .ok env1 := h1
      rw [rngV_succ, lc_cons, h1, show lo + (s : Int) + 1 = lo + ((s + 1 : Nat) : Int) by omega, e3]
      simp only [R.bind_ok, h2, h3, if_true, List.map_cons]
theorem lcR_ex {cl : Nat → List Val → R (Val × Bool)} {tg : Tg} {env : Env} {cond : Option E} {el : E} {p : Nat → Rat → Prop} {m : Nat} {lo : Int} (hm : m ≤ 1000000) (h : ∀ k : Nat, k < m → ∃ env1 q, bindT tg (wipeE env (tgs tg)) (.int (lo + k)) = .ok env1 ∧ evC cl cond env1 = .ok true ∧ (evE cl el env1).map (·.1) = .ok (nv q) ∧ p k q) :
    ∃ l : List Rat, l.length = m ∧ (∀ k q, l[k]? = some q → p k q) ∧ lcR cl (.ok (rngV lo m)) tg cond el env = .ok (lv l) := by
  obtain ⟨l, e1, e2, e3⟩ := lc_ex (p := p) (tg := tg) (env := wipeE env (tgs tg)) (c := fun env' => (evC cl cond env').noexc) (f := fun env' => (vlE cl el env').noexc) m lo 0 fun k hk => by
    obtain ⟨env1, q, g1, g2, g3, g4⟩ := h k hk
    refine ⟨env1, q, by rw [Nat.zero_add]; exact g1, by rw [g2]; rfl, ?_, by rw [Nat.zero_add]; exact g4⟩
    unfold vlE; rw [g3]; rfl
  refine ⟨l, e1, fun k q hk => by have := e2 k q hk; rwa [Nat.zero_add] at this, ?_⟩
  have hl : (rngV lo m).length = m := by unfold rngV; simp
  rw [lcR_ok, hl, if_pos (lenOk_lit hm)]
  have e3 : lcLoop tg (wipeE env (tgs tg)) (fun env' => (evC cl cond env').noexc) (fun env' => (vlE cl el env').noexc) (rngV lo m) = .ok (l.map nv) := by
    have e0 : lo + ((0 : Nat) : Int) = lo := by omega
    rw [e0] at e3; exact e3
  rw [e3]; rfl
theorem ownS_lv {l : List Rat} : ownS (some (some (lv l, true))) = .ok (l.map nv) := rfl
theorem noLs_nv : ∀ {l : List Rat}, noLs (l.map nv) = true
  | [] => rfl
  | a :: l => by show (noL (nv a) && noLs (l.map nv)) = true; rw [noLs_nv]; rfl
theorem back_bl {b f : Bool} : backOk (.bl b, f) = true := rfl
theorem back_int {i : Int} {f : Bool} : backOk (.int i, f) = true := rfl
theorem back_nv {q : Rat} {f : Bool} : backOk (nv q, f) = true := rfl
theorem back_cv {l : List Rat} {f : Bool} : backOk (cv l, f) = true := by
  unfold backOk
  have : noL (cv l) = true := noLs_nv
  rw [this]; rfl
theorem back_lv {l : List Rat} : backOk (lv l, true) = true := by
  show (false || (true && noLs (l.map nv))) = true
  rw [noLs_nv]; rfl
theorem c_eqB {a b : Bool} : evCmp .eq (.bl a) (.bl b) = .ok (.bl (decide (a = b))) := by rw [c_eqV (m := 0) (n := 0) (.bl a) (.bl b) (by decide) (by decide), vEq_bl]
theorem c_neB {a b : Bool} : evCmp .ne (.bl a) (.bl b) = .ok (.bl (!decide (a = b))) := by rw [c_neV (m := 0) (n := 0) (.bl a) (.bl b) (by decide) (by decide), vEq_bl]
end G

namespace G
open PySem
local macro_rules | `(tactic| walk_at "ev") => `(tactic| simp only [vl_nm, vl_bor, vl_cst, vl_bin, vl_neg, vl_cmp, vl_isn, vl_chn, vl_inn, vl_and, vl_or, vl_not, vl_ifx, vl_ix, vl_slc, vl_rev, vl_tup, vl_lst, vl_call, vl_cal, vl_dl, vl_get, vl_cax, vl_fnv, vl_blt, vl_isi, vl_ls, vl_sm, vl_jn, vl_pt, vl_sp, vl_lc, ev_nm, ev_cst, ev_bin, ev_neg, ev_cmp, ev_isn, ev_chn, ev_inn, ev_and, ev_or, ev_not, ev_ifx, ev_ix, ev_slc, ev_rev, ev_tup, ev_lst, ev_call, ev_cal, ev_dl, ev_get, ev_cax, ev_fnv, ev_blt, ev_isi, ev_ls, ev_smb, ev_jn, ev_pt, ev_sp, ev_lc, evEs_nil, evEs_cons, evAs_nil, evAs_cons, evO_none, evO_some, evC_none, evC_some, evIt_val, evIt_rng1, evIt_rng2, evIt_rvd, evIt_zip, evT_vl, andR_t, andR_f, orR_f, orR_t, ifxR_t, ifxR_f, chnR_t, chnR_f, ss_nil', ss_cons', thn_nx, thn_ret, thn_exc, thn_bad, s_set', set_ok, set_exc, s_unp', unp_ok, s_ifs', if_t, if_f, s_for', for_ok, s_whl', s_ret', s_retn', s_pass', s_rse', s_exp', s_try', try_nx, try_ret, try_exc, s_par', s_par3', s_six', s_dnew', s_dput', s_kput', ownK_s, ownKS_dk, guard_dct, ownD_s, ownDS_dct, dputO_ok, FV_int, s_app', s_pop', s_popu', s_popi', s_rev', s_ins', s_clr', rO_ok, rO_exc, ret_nm, ret_bor, ret_cst, ret_bin, ret_neg, ret_cmp, ret_isn, ret_chn, ret_inn, ret_and, ret_or, ret_not, ret_ifx, ret_ix, ret_slc, ret_rev, ret_tup, ret_lst, ret_call, ret_cal, ret_dl, ret_get, ret_cax, ret_blt, ret_isi, ret_ls, ret_sm, ret_jn, ret_pt, ret_sp, ret_lc, fin_nx, fin_ret, fin_exc, b_add, b_sub, b_mul, b_fdiv, b_mod, p11, p12, p30, p42, p57, p59, b_addL, b_addS, b_addT, b_mulL, c_lt, c_le, c_gt, c_ge, c_is, c_isnt, truth_bl, toI_int, toB_bl, items_lst, itemsR_lst, itemsR_tup, items_tup, len_lst, len_tup, len_scr, abs_int, int_int, int_bl, list_lst, list_tup, list_scr, tuple_lst, tuple_tup, max_int, min_int, ix_p0, ix_p1, c_eqI, c_neI, startE, frzE, frzI, frzAll, frz, kept, keptL, keptO, keptI, put, look, lookF, ownL_s, ownS_lst, evCall, lent, borI, bind_one, bind_tup, putAll, isLst_int, isLst_bl, isLst_str, isLst_tup, isLst_non, isLst_scr, isLst_exc, isLst_lst, isNon_int, isNon_bl, isNon_str, isNon_tup, isNon_non, isNon_scr, isNon_exc, isNon_lst, R.bind_ok, R.bind_exc, R.map_ok, R.map_exc, List.map_cons, List.map_nil, List.length_cons, List.length_nil, List.replicate, List.cons_append, List.nil_append, List.append_nil, List.getElem?_cons_zero, List.getElem?_cons_succ, List.set_cons_zero, List.set_cons_succ, Bool.false_and, Bool.true_and, Bool.and_true, Bool.and_false, Bool.or_false, Bool.false_or, Bool.or_true, Bool.true_or, Bool.not_true, Bool.not_false, decide_true, decide_false, if_true, if_false, ite_true, ite_false, reduceCtorEq, reduceIte, Nat.reduceAdd, Nat.reduceSub, Nat.reduceMul, Nat.reduceEqDiff, Int.reduceEq, Int.reduceLT, Int.reduceLE, Int.reduceNe, Int.reduceNeg, Int.reduceAdd, Int.reduceMul, Int.reduceSub, Nat.reduceLT, Nat.reduceLeDiff, Int.reduceGT, Int.reduceGE, is_tup_tuple, is_tup_list, is_tup_int, is_tup_bool, is_tup_str, is_lst_tuple, is_lst_list, is_lst_int, is_lst_bool, is_lst_str, is_int_tuple, is_int_list, is_int_int, is_int_bool, is_int_str, is_bl_tuple, is_bl_list, is_bl_int, is_bl_bool, is_bl_str, is_str_tuple, is_str_list, is_str_int, is_str_bool, is_str_str, is_non_tuple, is_non_list, is_non_int, is_non_bool, is_non_str, forS_ok, forB_nx, forB_ret, forL_nil, lc_nil, Int.cast_ofNat_Int, lc_cons, vlE_d, lenOk0, lenOk1, lenOk2, lenOk3, wipe1, wipe2, R.noexc_ok, decide_eq_true_eq, eq_self, ix_nv0, ix_nv1, is_nv_tuple, is_cv_tuple, is_lv_list, is_lv_tuple, is_cv_list, isLst_nv, isLst_cv, isLst_lv, isNon_nv, isNon_cv, isNon_lv, bind_nv, items_cv, itemsR_cv, itemsR_lv, items_lv, len_cv, len_lv, list_cv, list_lv, tuple_cv, tuple_lv, c_eqN, c_neN, c_eqC, c_neC, c_eqL, c_neL, nv01, nv11, cv_nil, cv_one, rev_lv, rev_cv, lv_one, lv_map, cv_map, lenOk_map, List.length_map, ownS_lv, back_bl, back_int, back_nv, back_cv, back_lv, c_eqB, c_neB])
local macro_rules | `(tactic| walk_at "evh") => `(tactic| simp only [vl_nm, vl_bor, vl_cst, vl_bin, vl_neg, vl_cmp, vl_isn, vl_chn, vl_inn, vl_and, vl_or, vl_not, vl_ifx, vl_ix, vl_slc, vl_rev, vl_tup, vl_lst, vl_call, vl_cal, vl_dl, vl_get, vl_cax, vl_fnv, vl_blt, vl_isi, vl_ls, vl_sm, vl_jn, vl_pt, vl_sp, vl_lc, ev_nm, ev_cst, ev_bin, ev_neg, ev_cmp, ev_isn, ev_chn, ev_inn, ev_and, ev_or, ev_not, ev_ifx, ev_ix, ev_slc, ev_rev, ev_tup, ev_lst, ev_call, ev_cal, ev_dl, ev_get, ev_cax, ev_fnv, ev_blt, ev_isi, ev_ls, ev_smb, ev_jn, ev_pt, ev_sp, ev_lc, evEs_nil, evEs_cons, evAs_nil, evAs_cons, evO_none, evO_some, evC_none, evC_some, evIt_val, evIt_rng1, evIt_rng2, evIt_rvd, evIt_zip, evT_vl, andR_t, andR_f, orR_f, orR_t, ifxR_t, ifxR_f, chnR_t, chnR_f, ss_nil', ss_cons', thn_nx, thn_ret, thn_exc, thn_bad, s_set', set_ok, set_exc, s_unp', unp_ok, s_ifs', if_t, if_f, s_for', for_ok, s_whl', s_ret', s_retn', s_pass', s_rse', s_exp', s_try', try_nx, try_ret, try_exc, s_par', s_par3', s_six', s_dnew', s_dput', s_kput', ownK_s, ownKS_dk, guard_dct, ownD_s, ownDS_dct, dputO_ok, FV_int, s_app', s_pop', s_popu', s_popi', s_rev', s_ins', s_clr', rO_ok, rO_exc, ret_nm, ret_bor, ret_cst, ret_bin, ret_neg, ret_cmp, ret_isn, ret_chn, ret_inn, ret_and, ret_or, ret_not, ret_ifx, ret_ix, ret_slc, ret_rev, ret_tup, ret_lst, ret_call, ret_cal, ret_dl, ret_get, ret_cax, ret_blt, ret_isi, ret_ls, ret_sm, ret_jn, ret_pt, ret_sp, ret_lc, fin_nx, fin_ret, fin_exc, b_add, b_sub, b_mul, b_fdiv, b_mod, p11, p12, p30, p42, p57, p59, b_addL, b_addS, b_addT, b_mulL, c_lt, c_le, c_gt, c_ge, c_is, c_isnt, truth_bl, toI_int, toB_bl, items_lst, itemsR_lst, itemsR_tup, items_tup, len_lst, len_tup, len_scr, abs_int, int_int, int_bl, list_lst, list_tup, list_scr, tuple_lst, tuple_tup, max_int, min_int, ix_p0, ix_p1, c_eqI, c_neI, startE, frzE, frzI, frzAll, frz, kept, keptL, keptO, keptI, put, look, lookF, ownL_s, ownS_lst, evCall, lent, borI, bind_one, bind_tup, putAll, isLst_int, isLst_bl, isLst_str, isLst_tup, isLst_non, isLst_scr, isLst_exc, isLst_lst, isNon_int, isNon_bl, isNon_str, isNon_tup, isNon_non, isNon_scr, isNon_exc, isNon_lst, R.bind_ok, R.bind_exc, R.map_ok, R.map_exc, List.map_cons, List.map_nil, List.length_cons, List.length_nil, List.replicate, List.cons_append, List.nil_append, List.append_nil, List.getElem?_cons_zero, List.getElem?_cons_succ, List.set_cons_zero, List.set_cons_succ, Bool.false_and, Bool.true_and, Bool.and_true, Bool.and_false, Bool.or_false, Bool.false_or, Bool.or_true, Bool.true_or, Bool.not_true, Bool.not_false, decide_true, decide_false, if_true, if_false, ite_true, ite_false, reduceCtorEq, reduceIte, Nat.reduceAdd, Nat.reduceSub, Nat.reduceMul, Nat.reduceEqDiff, Int.reduceEq, Int.reduceLT, Int.reduceLE, Int.reduceNe, Int.reduceNeg, Int.reduceAdd, Int.reduceMul, Int.reduceSub, Nat.reduceLT, Nat.reduceLeDiff, Int.reduceGT, Int.reduceGE, is_tup_tuple, is_tup_list, is_tup_int, is_tup_bool, is_tup_str, is_lst_tuple, is_lst_list, is_lst_int, is_lst_bool, is_lst_str, is_int_tuple, is_int_list, is_int_int, is_int_bool, is_int_str, is_bl_tuple, is_bl_list, is_bl_int, is_bl_bool, is_bl_str, is_str_tuple, is_str_list, is_str_int, is_str_bool, is_str_str, is_non_tuple, is_non_list, is_non_int, is_non_bool, is_non_str, forS_ok, forB_nx, forB_ret, forL_nil, lc_nil, Int.cast_ofNat_Int, lc_cons, vlE_d, lenOk0, lenOk1, lenOk2, lenOk3, wipe1, wipe2, R.noexc_ok, decide_eq_true_eq, eq_self, ix_nv0, ix_nv1, is_nv_tuple, is_cv_tuple, is_lv_list, is_lv_tuple, is_cv_list, isLst_nv, isLst_cv, isLst_lv, isNon_nv, isNon_cv, isNon_lv, bind_nv, items_cv, itemsR_cv, itemsR_lv, items_lv, len_cv, len_lv, list_cv, list_lv, tuple_cv, tuple_lv, c_eqN, c_neN, c_eqC, c_neC, c_eqL, c_neL, nv01, nv11, cv_nil, cv_one, rev_lv, rev_cv, lv_one, lv_map, cv_map, lenOk_map, List.length_map, ownS_lv, back_bl, back_int, back_nv, back_cv, back_lv, c_eqB, c_neB, *])
section
set_option linter.all false
set_option maxHeartbeats 1000000
set_option maxRecDepth 10000
open PySem
def fd_law_divisor : FD := ⟨2, 2, [.whl (.cmp .ne (.bor 1) (.cst (.int 0))) [.par 0 1 (.nm 1) (.bin .mod (.bor 0) (.bor 1))], .ret (.blt .abs [(.bor 0)])]⟩
section
variable {FT : Nat → Option FD}
theorem lw_loop {cl : Nat → List Val → R (Val × Bool)} : ∀ (n : Nat) (a b : Int), b.natAbs ≤ n → ∃ g : Int, g.natAbs = Int.gcd a b ∧ whlO cl (.cmp .ne (.bor 1) (.cst (.int 0))) [.par 0 1 (.nm 1) (.bin .mod (.bor 0) (.bor 1))] [some (.int a, false), some (.int b, false)] = .nx [some (.int g, false), some (.int 0, false)] := fun n a b hn => by
  by_cases h : b = 0
  · subst h
    exact ⟨a, by simp, whlO_f (by walk_at "ev")⟩
  · rw [whlO_t (env' := [some (.int b, false), some (.int (a.fmod b), false)]) (by walk_at "evh") (by walk_at "evh")]
    have h1 := fmod_small (a := a) h
    cases n with
    | zero => omega
    | succ n =>
      obtain ⟨g, e1, e2⟩ := lw_loop n b (a.fmod b) (by omega)
      exact ⟨g, by rw [e1, gcd_fmod], e2⟩
theorem callF_ldiv (h : FT 124 = some fd_law_divisor) {n : Nat} {a b : Int} : callF FT (n + 1) 124 [.int a, .int b] = .ok (.int (Int.gcd a b), false) := by
  rw [callF_s h rfl]
  obtain ⟨g, e1, e⟩ := lw_loop (cl := callF FT n) b.natAbs a b (Nat.le_refl _)
  have eg : (if g < 0 then -g else g) = (Int.gcd a b : Int) := by rw [← e1]; split <;> omega
  unfold fd_law_divisor
  rw [← eg]
  walk_at "evh"
end
end
section
set_option linter.all false
set_option maxHeartbeats 1000000
def ev : List Rat → Rat → Rat
  | [], _ => 0
  | a :: l, x => a + x * ev l x
def trim : List Rat → List Rat
  | [] => []
  | a :: l => if trim l = [] ∧ a = 0 then [] else a :: trim l
def Trim (l : List Rat) : Prop := trim l = l
def co (l : List Rat) (k : Nat) : Rat := l.getD k 0
theorem ev_nil {x : Rat} : ev [] x = 0 := rfl
theorem ev_cons {a : Rat} {l : List Rat} {x : Rat} : ev (a :: l) x = a + x * ev l x := rfl
theorem ev_trim {x : Rat} : ∀ l : List Rat, ev (trim l) x = ev l x
  | [] => rfl
  | a :: l => by
    unfold trim
    have ih := ev_trim (x := x) l
    split
    · rename_i h
      rw [h.1] at ih
      rw [ev_cons, ← ih, h.2, ev_nil]; grind
    · rw [ev_cons, ev_cons, ih]
theorem trim_trim : ∀ l : List Rat, Trim (trim l)
  | [] => rfl
  | a :: l => by
    have ih := trim_trim l
    unfold Trim at *
    by_cases h : trim l = [] ∧ a = 0
    · rw [show trim (a :: l) = [] by unfold trim; rw [if_pos h]]; rfl
    · rw [show trim (a :: l) = a :: trim l by rw [trim, if_neg h]]
      rw [trim, ih, if_neg h]
theorem Trim.nil : Trim [] := rfl
theorem trim_len : ∀ l : List Rat, (trim l).length ≤ l.length
  | [] => Nat.le_refl _
  | a :: l => by
    unfold trim
    split
    · exact Nat.zero_le _
    · exact Nat.succ_le_succ (trim_len l)
theorem trim_mem : ∀ {l : List Rat} {q : Rat}, q ∈ trim l → q ∈ l
  | [], q, h => h
  | a :: l, q, h => by
    unfold trim at h
    split at h
    · cases h
    · rcases List.mem_cons.mp h with rfl | h
      · exact List.mem_cons_self
      · exact List.mem_cons_of_mem _ (trim_mem h)
theorem trim_zero : ∀ {l : List Rat}, (∀ a ∈ l, a = 0) → trim l = []
  | [], _ => rfl
  | a :: l, h => by
    rw [trim, if_pos ⟨trim_zero fun b hb => h b (List.mem_cons_of_mem _ hb), h a List.mem_cons_self⟩]
theorem trim_snoc : ∀ (l : List Rat) (a : Rat), trim (l ++ [a]) = if a = 0 then trim l else l ++ [a]
  | [], a => by
    show (if trim [] = [] ∧ a = 0 then [] else a :: trim []) = _
    by_cases h : a = 0
    · rw [if_pos ⟨rfl, h⟩, if_pos h]; rfl
    · rw [if_neg fun z => h z.2, if_neg h]; rfl
  | b :: l, a => by
    show (if trim (l ++ [a]) = [] ∧ b = 0 then [] else b :: trim (l ++ [a])) = _
    rw [trim_snoc l a]
    by_cases h : a = 0
    · rw [if_pos h, if_pos h]; rfl
    · rw [if_neg h, if_neg h, if_neg (by simp)]; rfl
theorem Trim.last {l : List Rat} {a : Rat} (h : a ≠ 0) : Trim (l ++ [a]) := by
  unfold Trim; rw [trim_snoc, if_neg h]
theorem Trim.of_last {l : List Rat} {a : Rat} (h : Trim (l ++ [a])) : a ≠ 0 := fun z => by
  unfold Trim at h
  rw [trim_snoc, if_pos z] at h
  have := trim_len l
  rw [h] at this; simp at this; omega
theorem Trim.tail {a : Rat} {l : List Rat} (h : Trim (a :: l)) : Trim l := by
  unfold Trim at *
  rw [trim] at h
  split at h
  · cases h
  · exact (List.cons.inj h).2
theorem Trim.cons {a : Rat} {l : List Rat} (h : Trim l) (hl : l ≠ [] ∨ a ≠ 0) : Trim (a :: l) := by
  unfold Trim at *
  rw [trim, h, if_neg]
  rintro ⟨h1, h2⟩
  rcases hl with z | z
  · exact z h1
  · exact z h2
theorem Trim.not_zero {l : List Rat} (h : Trim l) (hz : ∀ a ∈ l, a = 0) : l = [] := h.symm.trans (trim_zero hz)
def quo (r : Rat) : List Rat → List Rat
  | [] => []
  | [_] => []
  | _ :: b :: l => ev (b :: l) r :: quo r (b :: l)
theorem quo_len (r : Rat) : ∀ l : List Rat, (quo r l).length = l.length - 1
  | [] => rfl
  | [_] => rfl
  | _ :: b :: l => by
    show (quo r (b :: l)).length + 1 = l.length + 1
    rw [quo_len r (b :: l)]; rfl
theorem quo_ev (r x : Rat) : ∀ l : List Rat, ev l x = ev l r + (x - r) * ev (quo r l) x
  | [] => by show (0 : Rat) = 0 + (x - r) * 0; grind
  | [a] => by show a + x * 0 = a + r * 0 + (x - r) * 0; grind
  | a :: b :: l => by
    have ih := quo_ev r x (b :: l)
    show a + x * ev (b :: l) x = a + r * ev (b :: l) r + (x - r) * (ev (b :: l) r + x * ev (quo r (b :: l)) x)
    rw [ih]; grind
theorem quo_zero (r : Rat) : ∀ l : List Rat, ev l r = 0 → (∀ a ∈ quo r l, a = 0) → ∀ a ∈ l, a = 0
  | [], _, _ => by simp
  | [a], h, _ => by
    have h : a + r * 0 = 0 := h
    intro b hb
    rw [List.mem_singleton.mp hb]; grind
  | a :: b :: l, h, hq => by
    have h0 : ev (b :: l) r = 0 := hq _ List.mem_cons_self
    have ih := quo_zero r (b :: l) h0 fun c hc => hq c (List.mem_cons_of_mem _ hc)
    have h : a + r * ev (b :: l) r = 0 := h
    intro c hc
    rcases List.mem_cons.mp hc with rfl | hc
    · rw [h0] at h; grind
    · exact ih c hc
theorem roots_zero : ∀ (S l : List Rat), S.Nodup → l.length ≤ S.length → (∀ r ∈ S, ev l r = 0) → ∀ a ∈ l, a = 0
  | [], l, _, hl, _ => by
    have : l = [] := List.length_eq_zero_iff.mp (Nat.le_zero.mp hl)
    subst this; simp
  | r :: S, l, nd, hl, h => by
    have h0 := h r List.mem_cons_self
    obtain ⟨hr, nd⟩ := List.nodup_cons.mp nd
    refine quo_zero r l h0 (roots_zero S (quo r l) nd (by rw [quo_len]; simp at hl; omega) fun s hs => ?_)
    have e := quo_ev r s l
    rw [h s (List.mem_cons_of_mem _ hs), h0] at e
    have ne : s - r ≠ 0 := fun z => hr (by rw [show r = s by grind]; exact hs)
    have e : (s - r) * ev (quo r l) s = 0 := by grind
    rcases Rat.mul_eq_zero.mp e with z | z
    · exact absurd z ne
    · exact z
def nats (n : Nat) : List Rat := (List.range n).map fun i : Nat => (i : Rat)
theorem nats_nd (n : Nat) : (nats n).Nodup := by
  refine List.Pairwise.map _ (fun a b h e => h (Rat.natCast_inj.mp e)) List.nodup_range
theorem ev_zero {l : List Rat} (h : ∀ x, ev l x = 0) : ∀ a ∈ l, a = 0 := roots_zero (nats l.length) l (nats_nd _) (by simp [nats]) fun r _ => h r
def addR : List Rat → List Rat → List Rat
  | [], m => m
  | l, [] => l
  | a :: l, b :: m => (a + b) :: addR l m
theorem ev_addR {x : Rat} : ∀ l m : List Rat, ev (addR l m) x = ev l x + ev m x
  | [], m => by show ev m x = 0 + ev m x; grind
  | a :: l, [] => by show ev (a :: l) x = ev (a :: l) x + 0; grind
  | a :: l, b :: m => by
    show (a + b) + x * ev (addR l m) x = (a + x * ev l x) + (b + x * ev m x)
    rw [ev_addR l m]; grind
def sclR (c : Rat) (l : List Rat) : List Rat := l.map fun a => a * c
theorem ev_scl {c x : Rat} : ∀ l : List Rat, ev (sclR c l) x = ev l x * c
  | [] => by show (0 : Rat) = 0 * c; grind
  | a :: l => by
    show a * c + x * ev (sclR c l) x = (a + x * ev l x) * c
    rw [ev_scl l]; grind
def mulR : List Rat → List Rat → List Rat
  | [], _ => []
  | a :: l, m => addR (sclR a m) (0 :: mulR l m)
theorem ev_mulR {x : Rat} : ∀ l m : List Rat, ev (mulR l m) x = ev l x * ev m x
  | [], m => by show (0 : Rat) = 0 * _; grind
  | a :: l, m => by
    show ev (addR (sclR a m) (0 :: mulR l m)) x = (a + x * ev l x) * ev m x
    rw [ev_addR, ev_scl, ev_cons, ev_mulR l m]; grind
theorem ev_inj : ∀ {l m : List Rat}, Trim l → Trim m → (∀ x, ev l x = ev m x) → l = m := fun {l m} hl hm h => by
  have hz : ∀ a ∈ addR l (sclR (-1) m), a = 0 := ev_zero fun x => by rw [ev_addR, ev_scl, h x]; grind
  have key : ∀ l m : List Rat, (∀ a ∈ addR l (sclR (-1) m), a = 0) → trim l = trim m := by
    intro l
    induction l with
    | nil =>
      intro m h
      have : ∀ a ∈ m, a = 0 := fun a ha => by
        have := h (a * -1) (List.mem_map.mpr ⟨a, ha, rfl⟩)
        grind
      rw [trim_zero this]; rfl
    | cons a l ih =>
      intro m h
      cases m with
      | nil =>
        have h : ∀ b ∈ a :: l, b = 0 := h
        rw [trim_zero h]; rfl
      | cons b m =>
        have h : ∀ c ∈ (a + b * -1) :: addR l (sclR (-1) m), c = 0 := h
        have h1 : a = b := by have := h _ List.mem_cons_self; grind
        rw [trim, trim, ih m fun c hc => h c (List.mem_cons_of_mem _ hc), h1]
  have := key l m hz
  rw [hl, hm] at this; exact this
theorem trim_rep (l : List Rat) : ∀ r : Nat, trim (l ++ List.replicate r 0) = trim l
  | 0 => by rw [List.replicate_zero, List.append_nil]
  | r + 1 => by rw [List.replicate_succ', ← List.append_assoc, trim_snoc, if_pos rfl, trim_rep l r]
theorem co_get {l : List Rat} {k : Nat} (h : k < l.length) : l[k]? = some (co l k) := by
  unfold co
  rw [List.getD_eq_getElem?_getD, List.getElem?_eq_getElem h]; rfl
theorem co_out {l : List Rat} {k : Nat} (h : l.length ≤ k) : co l k = 0 := by
  unfold co
  rw [List.getD_eq_getElem?_getD, List.getElem?_eq_none h]; rfl
theorem addR_len : ∀ l m : List Rat, (addR l m).length = max l.length m.length
  | [], m => by simp [addR]
  | a :: l, [] => by simp [addR]
  | a :: l, b :: m => by
    show (addR l m).length + 1 = max (l.length + 1) (m.length + 1)
    rw [addR_len l m]; omega
theorem addR_co : ∀ (l m : List Rat) (k : Nat), co (addR l m) k = co l k + co m k
  | [], m, k => by show co m k = 0 + co m k; grind
  | a :: l, [], k => by show co (a :: l) k = co (a :: l) k + 0; grind
  | a :: l, b :: m, 0 => rfl
  | a :: l, b :: m, k + 1 => by
    have := addR_co l m k
    show co (addR l m) k = co l k + co m k
    exact this
theorem list_co {l : List Rat} : l = (List.range l.length).map (co l) := by
  apply List.ext_getElem?
  intro k
  by_cases h : k < l.length
  · rw [co_get h, List.getElem?_map, List.getElem?_range h]; rfl
  · rw [List.getElem?_eq_none (by omega), List.getElem?_eq_none (by simp; omega)]
theorem addR_map (l m : List Rat) : addR l m = (List.range (max l.length m.length)).map fun k => co l k + co m k := by
  rw [list_co (l := addR l m), addR_len]
  exact List.map_congr_left fun k _ => addR_co l m k
def addP (l m : List Rat) : List Rat := trim (addR l m)
def sclP (l : List Rat) (c : Rat) : List Rat := trim (sclR c l)
def takP (l m : List Rat) : List Rat := addP l (sclP m (-1))
def mulP (l m : List Rat) : List Rat := trim (mulR l m)
theorem ev_addP {l m : List Rat} {x : Rat} : ev (addP l m) x = ev l x + ev m x := by unfold addP; rw [ev_trim, ev_addR]
theorem ev_sclP {l : List Rat} {c x : Rat} : ev (sclP l c) x = ev l x * c := by unfold sclP; rw [ev_trim, ev_scl]
theorem ev_takP {l m : List Rat} {x : Rat} : ev (takP l m) x = ev l x - ev m x := by unfold takP; rw [ev_addP, ev_sclP]; grind
theorem ev_mulP {l m : List Rat} {x : Rat} : ev (mulP l m) x = ev l x * ev m x := by unfold mulP; rw [ev_trim, ev_mulR]
theorem Trim.addP {l m : List Rat} : Trim (addP l m) := trim_trim _
theorem Trim.sclP {l : List Rat} {c : Rat} : Trim (sclP l c) := trim_trim _
theorem Trim.takP {l m : List Rat} : Trim (takP l m) := trim_trim _
theorem Trim.mulP {l m : List Rat} : Trim (mulP l m) := trim_trim _
theorem mulR_len : ∀ (l m : List Rat), l ≠ [] → m ≠ [] → (mulR l m).length = l.length + m.length - 1
  | [], m, h, _ => absurd rfl h
  | [a], m, _, hm => by
    show (addR (sclR a m) [0]).length = _
    rw [addR_len]
    have : 0 < m.length := List.length_pos_iff.mpr hm
    simp [sclR]; omega
  | a :: b :: l, m, _, hm => by
    show (addR (sclR a m) (0 :: mulR (b :: l) m)).length = _
    rw [addR_len, List.length_cons, mulR_len (b :: l) m (by simp) hm]
    have : 0 < m.length := List.length_pos_iff.mpr hm
    simp [sclR]; omega
def slpR (l : List Rat) : List Rat := (List.range (l.length - 1)).map fun k => co l (k + 1) * ((k + 1 : Nat) : Rat)
def dv : List Rat → List Rat
  | [] => []
  | _ :: l => addR l (0 :: dv l)
def wt (s : Rat) : List Rat → List Rat
  | [] => []
  | a :: l => a * s :: wt (s + 1) l
theorem wt_more {x : Rat} : ∀ (l : List Rat) (s : Rat), ev (wt (s + 1) l) x = ev (wt s l) x + ev l x
  | [], s => by show (0 : Rat) = 0 + 0; grind
  | a :: l, s => by
    show a * (s + 1) + x * ev (wt (s + 1 + 1) l) x = a * s + x * ev (wt (s + 1) l) x + (a + x * ev l x)
    rw [wt_more l (s + 1)]; grind
theorem ev_dv_cons {a x : Rat} {l : List Rat} : ev (dv (a :: l)) x = ev l x + x * ev (dv l) x := by
  show ev (addR l (0 :: dv l)) x = _
  rw [ev_addR, ev_cons]; grind
theorem wt_zero {x : Rat} : ∀ l : List Rat, ev (wt 0 l) x = x * ev (dv l) x
  | [] => by show (0 : Rat) = x * 0; grind
  | a :: l => by
    have h := wt_more (x := x) l 0
    have ih := wt_zero (x := x) l
    rw [ev_dv_cons]
    show a * 0 + x * ev (wt (0 + 1) l) x = x * (ev l x + x * ev (dv l) x)
    rw [h, ih]; grind
theorem wt_get : ∀ (l : List Rat) (s : Rat) (k : Nat), co (wt s l) k = co l k * (s + k)
  | [], s, k => by show co [] k = co [] k * _; rw [co_out (by simp)]; grind
  | a :: l, s, 0 => by show a * s = a * (s + ((0 : Nat) : Rat)); grind
  | a :: l, s, k + 1 => by
    have := wt_get l (s + 1) k
    show co (wt (s + 1) l) k = co l k * (s + ((k + 1 : Nat) : Rat))
    rw [this, Rat.natCast_add]; grind
theorem wt_len : ∀ (l : List Rat) (s : Rat), (wt s l).length = l.length
  | [], _ => rfl
  | a :: l, s => by show (wt (s + 1) l).length + 1 = _; rw [wt_len l]; rfl
theorem slpR_wt : ∀ l : List Rat, slpR l = match l with | [] => [] | _ :: t => wt 1 t
  | [] => rfl
  | a :: t => by
    show (List.range t.length).map (fun k => co (a :: t) (k + 1) * ((k + 1 : Nat) : Rat)) = wt 1 t
    rw [list_co (l := wt 1 t), wt_len]
    refine List.map_congr_left fun k _ => ?_
    have e : co (a :: t) (k + 1) = co t k := by unfold co; simp
    rw [wt_get, e, Rat.natCast_add]; grind
theorem ev_slp {x : Rat} : ∀ l : List Rat, ev (slpR l) x = ev (dv l) x
  | [] => rfl
  | a :: t => by
    rw [slpR_wt, ev_dv_cons]
    have h := wt_more (x := x) t 0
    rw [wt_zero] at h
    have e : (0 : Rat) + 1 = 1 := by grind
    rw [e] at h
    show ev (wt 1 t) x = _
    rw [h]; grind
theorem slpR_len (l : List Rat) : (slpR l).length = l.length - 1 := by unfold slpR; simp
theorem Trim.wt : ∀ {l : List Rat} {s : Rat}, Trim l → 0 < s → Trim (G.wt s l)
  | [], s, _, _ => rfl
  | a :: l, s, h, hs => by
    refine Trim.cons (Trim.wt h.tail (by grind)) ?_
    cases l with
    | nil =>
      right
      have ha : a ≠ 0 := Trim.of_last (l := []) h
      intro z
      rcases Rat.mul_eq_zero.mp z with z | z
      · exact ha z
      · grind
    | cons b l => left; simp [G.wt]
theorem Trim.slp {l : List Rat} (h : Trim l) : Trim (slpR l) := by
  rw [slpR_wt]
  cases l with
  | nil => rfl
  | cons a t => exact Trim.wt h.tail (by grind)
theorem dv_addR {x : Rat} : ∀ l m : List Rat, ev (dv (addR l m)) x = ev (dv l) x + ev (dv m) x
  | [], m => by show ev (dv m) x = 0 + _; grind
  | a :: l, [] => by show ev (dv (a :: l)) x = _ + 0; grind
  | a :: l, b :: m => by
    have ih := dv_addR (x := x) l m
    show ev (dv ((a + b) :: addR l m)) x = _
    rw [ev_dv_cons, ev_dv_cons, ev_dv_cons, ih, ev_addR]; grind
theorem dv_scl {c x : Rat} : ∀ l : List Rat, ev (dv (sclR c l)) x = ev (dv l) x * c
  | [] => by show (0 : Rat) = 0 * c; grind
  | a :: l => by
    have ih := dv_scl (c := c) (x := x) l
    show ev (dv (a * c :: sclR c l)) x = _
    rw [ev_dv_cons, ev_dv_cons, ih, ev_scl]; grind
theorem dv_mulR {x : Rat} : ∀ l m : List Rat, ev (dv (mulR l m)) x = ev (dv l) x * ev m x + ev l x * ev (dv m) x
  | [], m => by show (0 : Rat) = 0 * _ + 0 * _; grind
  | a :: l, m => by
    have ih := dv_mulR (x := x) l m
    show ev (dv (addR (sclR a m) (0 :: mulR l m))) x = _
    rw [dv_addR, dv_scl, ev_dv_cons, ev_dv_cons, ih, ev_mulR, ev_cons]; grind
theorem dv_trim {x : Rat} : ∀ l : List Rat, ev (dv (trim l)) x = ev (dv l) x
  | [] => rfl
  | a :: l => by
    have ih := dv_trim (x := x) l
    have ie := ev_trim (x := x) l
    rw [trim]
    split
    · rename_i h
      rw [h.1] at ih ie
      rw [ev_dv_cons, ← ih, ← ie]; show (0 : Rat) = 0 + x * 0; grind
    · rw [ev_dv_cons, ev_dv_cons, ih, ie]
theorem top_mulR : ∀ (l m : List Rat), l ≠ [] → m ≠ [] → co (mulR l m) (l.length - 1 + (m.length - 1)) = co l (l.length - 1) * co m (m.length - 1)
  | [], m, h, _ => absurd rfl h
  | [a], m, _, hm => by
    have hp : 0 < m.length := List.length_pos_iff.mpr hm
    show co (addR (sclR a m) [0]) (0 + (m.length - 1)) = a * _
    rw [addR_co, Nat.zero_add]
    have e1 : co (sclR a m) (m.length - 1) = co m (m.length - 1) * a := by
      have h1 := co_get (l := m) (k := m.length - 1) (by omega)
      have h2 := co_get (l := sclR a m) (k := m.length - 1) (by simp [sclR]; omega)
      unfold sclR at h2
      rw [List.getElem?_map, h1] at h2
      exact (Option.some.inj h2).symm
    have e2 : co [(0 : Rat)] (m.length - 1) = 0 := by
      cases m.length - 1 with
      | zero => rfl
      | succ n => rfl
    rw [e1, e2]; grind
  | a :: b :: l, m, _, hm => by
    have hp : 0 < m.length := List.length_pos_iff.mpr hm
    have ih := top_mulR (b :: l) m (by simp) hm
    have ek : (a :: b :: l).length - 1 + (m.length - 1) = ((b :: l).length - 1 + (m.length - 1)) + 1 := by simp; omega
    rw [ek]
    show co (addR (sclR a m) (0 :: mulR (b :: l) m)) (((b :: l).length - 1 + (m.length - 1)) + 1) = co (a :: b :: l) ((b :: l).length - 1 + 1) * _
    rw [addR_co, co_out (by simp [sclR]; omega)]
    show 0 + co (mulR (b :: l) m) ((b :: l).length - 1 + (m.length - 1)) = co (b :: l) ((b :: l).length - 1) * _
    rw [ih]; grind
theorem Trim.top {l : List Rat} (h : Trim l) (hl : l ≠ []) : co l (l.length - 1) ≠ 0 := by
  rcases List.eq_nil_or_concat l with rfl | ⟨t, a, rfl⟩
  · exact absurd rfl hl
  · rw [List.concat_eq_append] at h ⊢
    have := Trim.of_last h
    unfold co
    rw [List.getD_eq_getElem?_getD]; simpa using this
theorem Trim.of_top {l : List Rat} (h : co l (l.length - 1) ≠ 0) : Trim l := by
  rcases List.eq_nil_or_concat l with rfl | ⟨t, a, rfl⟩
  · rfl
  · rw [List.concat_eq_append] at h ⊢
    refine Trim.last fun z => h ?_
    unfold co
    rw [List.getD_eq_getElem?_getD]; simpa using z
theorem mulP_eq {l m : List Rat} (hl : Trim l) (hm : Trim m) (nl : l ≠ []) (nm : m ≠ []) : mulP l m = mulR l m := by
  refine Trim.of_top ?_
  rw [mulR_len l m nl nm]
  have h1 : 0 < l.length := List.length_pos_iff.mpr nl
  have h2 : 0 < m.length := List.length_pos_iff.mpr nm
  rw [show l.length + m.length - 1 - 1 = l.length - 1 + (m.length - 1) by omega, top_mulR l m nl nm]
  intro z
  rcases Rat.mul_eq_zero.mp z with z | z
  · exact hl.top nl z
  · exact hm.top nm z
theorem mulP_len {l m : List Rat} (hl : Trim l) (hm : Trim m) (nl : l ≠ []) (nm : m ≠ []) : (mulP l m).length = l.length + m.length - 1 := by
  rw [mulP_eq hl hm nl nm, mulR_len l m nl nm]
theorem mulR_nil : ∀ l : List Rat, ∀ a ∈ mulR l [], a = 0
  | [] => by simp [mulR]
  | a :: l => by
    intro b hb
    have hb : b ∈ (0 : Rat) :: mulR l [] := hb
    rcases List.mem_cons.mp hb with rfl | hb
    · rfl
    · exact mulR_nil l b hb
theorem mulP_nil (l : List Rat) : mulP l [] = [] := trim_zero (mulR_nil l)
def seg {α : Type} (f : Nat → α) (k d : Nat) : List α := (List.range d).map fun i => f (k + i)
def strG (k : Rat) (b : Rat) : List Rat → List Rat
  | [] => []
  | a :: l => a / b :: strG k (b * k) l
theorem Trim.str {k : Rat} (hk : k ≠ 0) : ∀ {l : List Rat} {b : Rat}, Trim l → b ≠ 0 → Trim (strG k b l)
  | [], _, _, _ => rfl
  | a :: l, b, h, hb => by
    have hbk : b * k ≠ 0 := fun z => (Rat.mul_eq_zero.mp z).elim hb hk
    refine Trim.cons (Trim.str hk h.tail hbk) ?_
    cases l with
    | nil =>
      right
      have ha : a ≠ 0 := Trim.of_last (l := []) h
      intro z
      apply ha
      have : a = a / b * b := by grind
      rw [this, z]; grind
    | cons c l => left; simp [strG]
end
section
set_option linter.all false
set_option maxHeartbeats 1000000
set_option maxRecDepth 10000
open PySem
def fd_without_noughts : FD := ⟨1, 2, [.set 1 (.blt .len [(.bor 0)]), .whl (.and (.cmp .gt (.bor 1) (.cst (.int 0))) (.cmp .eq (.ix (.ix (.bor 0) (.bin .sub (.bor 1) (.cst (.int 1)))) (.cst (.int 0))) (.cst (.int 0)))) [.set 1 (.bin .sub (.bor 1) (.cst (.int 1)))], .ret (.blt .tuple [(.slc (.bor 0) none (some (.bor 1)))])]⟩
def fd_curve_of : FD := ⟨1, 2, [.set 1 (.call 8 [(.nm 0)]), .ifs (.cmp .gt (.blt .len [(.bor 1)]) (.cst (.int 13))) [.rse 3] [], .ret (.nm 1)]⟩
section
variable {FT : Nat → Option FD}
def BL (n : Nat) (l : List Rat) : Prop := ∀ q ∈ l, Bd n q
theorem BL.mono {m n : Nat} {l : List Rat} (h : BL m l) (e : m ≤ n) : BL n l := fun q hq => (h q hq).mono e
theorem BL.trim {n : Nat} {l : List Rat} (h : BL n l) : BL n (trim l) := fun q hq => h q (trim_mem hq)
theorem BL.nil {n : Nat} : BL n [] := fun _ h => by cases h
theorem BL.cons {n : Nat} {a : Rat} {l : List Rat} (ha : Bd n a) (h : BL n l) : BL n (a :: l) := fun q hq => by
  rcases List.mem_cons.mp hq with rfl | hq
  · exact ha
  · exact h q hq
theorem BL.app {n : Nat} {l m : List Rat} (h : BL n l) (h2 : BL n m) : BL n (l ++ m) := fun q hq => (List.mem_append.mp hq).elim (h q) (h2 q)
theorem trim_take {l : List Rat} {m : Nat} (hm : m ≤ l.length) : trim (l.take m) = if h : 0 < m then (if l.getD (m - 1) 0 = 0 then trim (l.take (m - 1)) else l.take m) else [] := by
  split
  · rename_i h
    have hlt : m - 1 < l.length := by omega
    have e : l.take m = l.take (m - 1) ++ [l.getD (m - 1) 0] := by
      have e1 : m = (m - 1) + 1 := by omega
      conv => lhs; rw [e1]
      rw [List.take_succ_eq_append_getElem hlt, List.getD_eq_getElem?_getD, List.getElem?_eq_getElem hlt]; rfl
    rw [e, trim_snoc]
  · have : m = 0 := by omega
    subst this; rfl
theorem wn_loop {cl : Nat → List Val → R (Val × Bool)} {L : Val} {l : List Rat} (hix : ∀ (i : Int) (k : Nat) q, i = k → l[k]? = some q → evIx L (.int i) = .ok (nv q)) : ∀ m : Nat, m ≤ l.length →
    ∃ m' : Nat, m' ≤ m ∧ l.take m' = trim (l.take m) ∧ whlO cl (.and (.cmp .gt (.bor 1) (.cst (.int 0))) (.cmp .eq (.ix (.ix (.bor 0) (.bin .sub (.bor 1) (.cst (.int 1)))) (.cst (.int 0))) (.cst (.int 0)))) [.set 1 (.bin .sub (.bor 1) (.cst (.int 1)))] [some (L, false), some (.int m, false)] = .nx [some (L, false), some (.int m', false)]
  | 0, _ => ⟨0, Nat.le_refl _, rfl, whlO_f (by walk_at "ev")⟩
  | m + 1, hm => by
    have hlt : m < l.length := hm
    have hg : l[m]? = some (l.getD m 0) := by rw [List.getD_eq_getElem?_getD, List.getElem?_eq_getElem hlt]; rfl
    have e := hix (((m + 1 : Nat) : Int) - 1) m _ (by omega) hg
    have h0 : (0 : Int) < ((m + 1 : Nat) : Int) := by omega
    have ht := trim_take hm
    rw [dif_pos (Nat.succ_pos m), Nat.add_sub_cancel] at ht
    by_cases hz : (l.getD m 0).num = 0
    · rw [if_pos (num_zero.mp hz)] at ht
      obtain ⟨m', h1, h2, h3⟩ := wn_loop (cl := cl) hix m (Nat.le_of_succ_le hm)
      refine ⟨m', Nat.le_succ_of_le h1, h2.trans ht.symm, ?_⟩
      have hd : decide ((l.getD m 0).num = 0) = true := decide_eq_true hz
      have e2 : (((m + 1 : Nat) : Int) - 1) = m := by omega
      rw [e2] at e
      rw [← h3]
      clear h3 ht hix
      exact whlO_t (by walk_at "evh") (by walk_at "evh")
    · rw [if_neg fun z => hz (num_zero.mpr z)] at ht
      refine ⟨m + 1, Nat.le_refl _, ht.symm, ?_⟩
      clear ht hix hg
      exact whlO_f (by walk_at "evh")
theorem cut_take {α : Type} {xs : List α} {m : Nat} (h : m ≤ xs.length) : cut xs none (some (m : Int)) = xs.take m := by
  unfold cut
  have e1 : HT.sIx xs.length 0 none = 0 := rfl
  have e2 : HT.sIx xs.length xs.length (some (m : Int)) = m := by
    rw [HT.sIx_nat]; exact Nat.min_eq_left h
  rw [e1, e2]; simp
theorem take_nv {l : List Rat} {m : Nat} : (l.map nv).take m = (l.take m).map nv := by rw [List.map_take]
theorem callF_wn (h8 : FT 8 = some fd_without_noughts) {n : Nat} {L : Val} {l : List Rat} (hL : L = cv l ∨ L = lv l) : callF FT (n + 1) 8 [L] = .ok (cv (trim l), false) := by
  rw [callF_s h8 rfl]
  have hix : ∀ (i : Int) (k : Nat) q, i = k → l[k]? = some q → evIx L (.int i) = .ok (nv q) := fun i k q hi hk => by
    rcases hL with rfl | rfl
    · exact ix_cvN hi hk
    · exact ix_lvN hi hk
  have hlen : evBf .len [L] = .ok (.int l.length) := by
    rcases hL with rfl | rfl
    · exact len_cv
    · exact len_lv
  obtain ⟨m', h1, h2, h3⟩ := wn_loop (cl := callF FT n) hix l.length (Nat.le_refl _)
  rw [List.take_length] at h2
  have hs : ∃ S, evSlc none (some (m' : Int)) L = .ok S ∧ isLst S = isLst L ∧ evBf .tuple [S] = .ok (cv (trim l)) := by
    have hc : cut (l.map nv) none (some (m' : Int)) = (trim l).map nv := by
      rw [cut_take (by rw [List.length_map]; exact h1), take_nv, h2]
    rcases hL with rfl | rfl
    · exact ⟨cv (trim l), by show R.ok (Val.tup (cut (l.map nv) none (some (m' : Int)))) = _; rw [hc]; rfl, rfl, rfl⟩
    · exact ⟨lv (trim l), by show R.ok (Val.lst (cut (l.map nv) none (some (m' : Int)))) = _; rw [hc]; rfl, rfl, rfl⟩
  obtain ⟨S, s1, s2, s3⟩ := hs
  unfold fd_without_noughts
  clear hL hix h1 h2 s2
  walk_at "evh"
end
end
section
set_option linter.all false
set_option maxHeartbeats 1000000
set_option maxRecDepth 10000
open PySem
def fd_at_power : FD := ⟨2, 2, [.ifs (.cmp .lt (.bor 1) (.blt .len [(.bor 0)])) [.ret (.ix (.bor 0) (.bor 1))] [], .ret (.cst (.tup [(.int 0), (.int 1)]))]⟩
def fd_scaled : FD := ⟨2, 3, [.ret (.call 8 [(.lc (.one 2) (.val (.bor 0)) none (.call 6 [(.nm 2), (.nm 1)]))])]⟩
def fd_added : FD := ⟨2, 4, [.set 2 (.blt .max2 [(.blt .len [(.bor 0)]), (.blt .len [(.bor 1)])]), .ret (.call 8 [(.lc (.one 3) (.rng1 (.bor 2)) none (.call 4 [(.call 11 [(.nm 0), (.nm 3)]), (.call 11 [(.nm 1), (.nm 3)])]))])]⟩
def fd_taken : FD := ⟨2, 2, [.ret (.call 13 [(.nm 0), (.call 12 [(.nm 1), (.tup [(.neg (.cst (.int 1))), (.cst (.int 1))])])])]⟩
def fd_product : FD := ⟨2, 5, [.set 2 (.bin .mul (.lst [(.cst (.tup [(.int 0), (.int 1)]))]) (.blt .max2 [(.cst (.int 0)), (.bin .sub (.bin .add (.blt .len [(.bor 0)]) (.blt .len [(.bor 1)])) (.cst (.int 1)))])), .for (.one 3) (.rng1 (.blt .len [(.bor 0)])) [.for (.one 4) (.rng1 (.blt .len [(.bor 1)])) [.six 2 (.bin .add (.bor 3) (.bor 4)) (.call 4 [(.ix (.bor 2) (.bin .add (.bor 3) (.bor 4))), (.call 6 [(.ix (.bor 0) (.bor 3)), (.ix (.bor 1) (.bor 4))])])]], .ret (.call 8 [(.nm 2)])]⟩
def fd_multiplied : FD := ⟨2, 2, [.ret (.call 9 [(.call 15 [(.nm 0), (.nm 1)])])]⟩
section
variable {FT : Nat → Option FD}
theorem Bd0 {n : Nat} : Bd (n + 1) 0 := Bd.mono (m := 1) ⟨by decide, by decide⟩ (by omega)
theorem BL.co {n : Nat} {l : List Rat} (h : BL (n + 1) l) (k : Nat) : Bd (n + 1) (co l k) := by
  by_cases hk : k < l.length
  · exact h _ (List.mem_iff_getElem?.mpr ⟨k, co_get hk⟩)
  · rw [co_out (by omega)]; exact Bd0
theorem BL.scl {i j : Nat} {l : List Rat} {c : Rat} (bl : BL i l) (bc : Bd j c) : BL (i + j) (sclP l c) := fun q hq => by
  obtain ⟨a, ha, rfl⟩ := List.mem_map.mp (trim_mem hq)
  exact (bl a ha).mul bc
theorem BL.addP {i j : Nat} {l m : List Rat} (bl : BL (i + 1) l) (bm : BL (j + 1) m) : BL (i + j + 3) (addP l m) := fun q hq => by
  have := trim_mem hq
  rw [addR_map] at this
  obtain ⟨k, _, rfl⟩ := List.mem_map.mp this
  exact ((bl.co k).add (bm.co k)).mono (by omega)
theorem BL.takP {i j : Nat} {l m : List Rat} (bl : BL (i + 1) l) (bm : BL (j + 1) m) : BL (i + j + 4) (takP l m) := (BL.addP (j := j + 1) bl (bm.scl (j := 1) ⟨by decide, by decide⟩)).mono (by omega)
section
variable (h0 : FT 0 = some fd_divisor_of) (h1 : FT 1 = some fd_number)
include h0 h1
def nb (M j k i : Nat) : Nat := if i < j then M else if i < j + k then M - (i - j) else M - (i - j) - 1
end
end
end
section
set_option linter.all false
set_option maxHeartbeats 1000000
def Cm (D M : Nat) (l : List Rat) : Prop := ∀ a ∈ l, ∃ n : Int, a * (D : Rat) = (n : Rat) ∧ n.natAbs < 2 ^ M
theorem natCast_ne {D : Nat} (h : 0 < D) : (D : Rat) ≠ 0 := fun z => by have := Rat.natCast_eq_zero_iff.mp z; omega
theorem cm_div {D : Nat} (h : 0 < D) {a : Rat} {n : Int} (e : a * (D : Rat) = (n : Rat)) : a = Rat.divInt n D := by
  have hd := natCast_ne h
  rw [Rat.divInt_eq_div, Rat.intCast_natCast]; grind
theorem num_den (a : Rat) : a * (a.den : Rat) = (a.num : Rat) := by
  have h := Rat.num_divInt_den a
  rw [Rat.divInt_eq_div, Rat.intCast_natCast] at h
  have := natCast_ne a.den_pos
  grind
theorem Cm.bl {D M d : Nat} {l : List Rat} (h : Cm D M l) (h0 : 0 < D) (hd : D < 2 ^ d) (hp : 0 < d) : ∀ a ∈ l, Bd (d + M) a := fun a ha => by
  obtain ⟨n, e, hn⟩ := h a ha
  rw [cm_div h0 e]
  exact .divInt (by omega) (pow_up hn (by omega)) (by rw [Int.natAbs_natCast]; exact pow_up hd (by omega))
theorem Cm.co {D M : Nat} {l : List Rat} (h : Cm D M l) (k : Nat) : ∃ n : Int, co l k * (D : Rat) = (n : Rat) ∧ n.natAbs < 2 ^ M := by
  by_cases hk : k < l.length
  · exact h _ (List.mem_iff_getElem?.mpr ⟨k, co_get hk⟩)
  · rw [co_out (by omega)]
    exact ⟨0, by rw [Rat.intCast_zero]; grind, by show 0 < 2 ^ M; exact Nat.pow_pos (by decide)⟩
theorem Cm.trim {D M : Nat} {l : List Rat} (h : Cm D M l) : Cm D M (trim l) := fun a ha => h a (trim_mem ha)
theorem Cm.mono {D M N : Nat} {l : List Rat} (h : Cm D M l) (e : M ≤ N) : Cm D N l := fun a ha => by
  obtain ⟨n, e1, e2⟩ := h a ha
  exact ⟨n, e1, pow_up e2 e⟩
theorem Cm.more {D M E e : Nat} {l : List Rat} (h : Cm D M l) (hE : E < 2 ^ e) : Cm (D * E) (M + e) l := fun a ha => by
  obtain ⟨n, e1, e2⟩ := h a ha
  refine ⟨n * E, ?_, ?_⟩
  · rw [Rat.natCast_mul, Rat.intCast_mul, Rat.intCast_natCast, ← e1]; grind
  · rw [Int.natAbs_mul, Int.natAbs_natCast]; exact lt_mul e2 hE
theorem cm_of {K : Nat} : ∀ (l : List Rat), (∀ a ∈ l, Bd K a) → ∃ D : Nat, 0 < D ∧ D < 2 ^ (l.length * K + 1) ∧ Cm D (l.length * K + 1) l
  | [], _ => ⟨1, by decide, by simp, fun _ h => by cases h⟩
  | a :: l, h => by
    obtain ⟨D, h0, h1, h2⟩ := cm_of l fun b hb => h b (List.mem_cons_of_mem _ hb)
    have ba := h a List.mem_cons_self
    have e : (a :: l).length * K + 1 = l.length * K + 1 + K := by rw [List.length_cons, Nat.succ_mul]; omega
    refine ⟨D * a.den, Nat.mul_pos h0 a.den_pos, by rw [e]; exact lt_mul h1 ba.2, fun b hb => ?_⟩
    rw [e]
    rcases List.mem_cons.mp hb with rfl | hb
    · refine ⟨b.num * D, ?_, ?_⟩
      · rw [Rat.natCast_mul, Rat.intCast_mul, Rat.intCast_natCast, ← num_den b]; grind
      · rw [Int.natAbs_mul, Int.natAbs_natCast, Nat.add_comm]; exact lt_mul ba.1 h1
    · exact h2.more ba.2 b hb
theorem co_trim : ∀ (l : List Rat) (k : Nat), co (trim l) k = co l k
  | [], _ => rfl
  | a :: l, k => by
    rw [trim]
    have ih := co_trim l
    split
    · rename_i h
      cases k with
      | zero => rw [h.2]; rfl
      | succ k =>
        have := ih k
        rw [h.1] at this
        show (0 : Rat) = co l k
        rw [← this]; rfl
    · cases k with
      | zero => rfl
      | succ k => exact ih k
theorem co_scl {c : Rat} : ∀ (l : List Rat) (k : Nat), co (sclR c l) k = co l k * c
  | [], k => by rw [co_out (by simp [sclR]), co_out (by simp)]; grind
  | a :: l, 0 => rfl
  | a :: l, k + 1 => co_scl l k
theorem mem_co {l : List Rat} {a : Rat} (h : a ∈ l) : ∃ k, a = co l k := by
  obtain ⟨k, hk⟩ := List.mem_iff_getElem?.mp h
  have := co_get (List.getElem?_eq_some_iff.mp hk).1
  rw [hk] at this
  exact ⟨k, Option.some.inj this⟩
theorem co_addP {l m : List Rat} {k : Nat} : co (addP l m) k = co l k + co m k := by unfold addP; rw [co_trim, addR_co]
end
section
set_option linter.all false
set_option maxHeartbeats 1000000
theorem trim_le {n : Nat} : ∀ {l : List Rat}, (∀ k, n ≤ k → co l k = 0) → (trim l).length ≤ n
  | [], _ => Nat.zero_le _
  | a :: l, h => by
    cases n with
    | zero =>
      have : trim (a :: l) = [] := trim_zero fun b hb => by
        obtain ⟨k, rfl⟩ := mem_co hb
        exact h k (Nat.zero_le _)
      rw [this]; exact Nat.le_refl _
    | succ n =>
      have ih := trim_le (n := n) (l := l) fun k hk => h (k + 1) (by omega)
      rw [trim]
      split
      · exact Nat.zero_le _
      · exact Nat.succ_le_succ ih
theorem co_app_rep {i k : Nat} {l : List Rat} : co (List.replicate i 0 ++ l) k = if k < i then 0 else co l (k - i) := by
  unfold co
  rw [List.getD_eq_getElem?_getD, List.getD_eq_getElem?_getD]
  split
  · rename_i h
    rw [List.getElem?_append_left (by rw [List.length_replicate]; exact h), List.getElem?_replicate, if_pos h]; rfl
  · rename_i h
    rw [List.getElem?_append_right (by rw [List.length_replicate]; omega), List.length_replicate]
theorem ev_app_rep {x : Rat} {l : List Rat} : ∀ i : Nat, ev (List.replicate i 0 ++ l) x = x ^ i * ev l x
  | 0 => by show ev l x = x ^ 0 * _; rw [Rat.pow_zero]; grind
  | i + 1 => by
    have ih := ev_app_rep (x := x) (l := l) i
    show (0 : Rat) + x * ev (List.replicate i 0 ++ l) x = _
    rw [ih, Rat.pow_succ]; grind
def ld (l : List Rat) : Rat := co l (l.length - 1)
def prt (m r : List Rat) : List Rat := List.replicate (r.length - m.length) 0 ++ m.map fun a => a * (ld r / ld m)
def stp (m r : List Rat) : List Rat := takP r (prt m r)
theorem co_map_mul {q : Rat} (l : List Rat) (k : Nat) : co (l.map fun a => a * q) k = co l k * q := co_scl l k
theorem co_prt {m r : List Rat} {k : Nat} : co (prt m r) k = if k < r.length - m.length then 0 else co m (k - (r.length - m.length)) * (ld r / ld m) := by
  unfold prt
  rw [co_app_rep, co_map_mul]
theorem co_stp {m r : List Rat} {k : Nat} : co (stp m r) k = co r k - co (prt m r) k := by
  unfold stp takP
  rw [co_addP, sclP, co_trim, co_scl]; grind
theorem stp_len {m r : List Rat} (hm : m ≠ []) (tm : Trim m) (h : m.length ≤ r.length) : (stp m r).length < r.length := by
  have hp : 0 < m.length := List.length_pos_iff.mpr hm
  have : (stp m r).length ≤ r.length - 1 := by
    have e : stp m r = trim (stp m r) := (Trim.takP (l := r) (m := prt m r)).symm
    rw [e]
    refine trim_le fun k hk => ?_
    rw [co_stp, co_prt, if_neg (by omega)]
    by_cases hk2 : k = r.length - 1
    · subst hk2
      have e1 : r.length - 1 - (r.length - m.length) = m.length - 1 := by omega
      have h0 : ld m ≠ 0 := tm.top hm
      rw [e1]
      show ld r - ld m * (ld r / ld m) = 0
      grind
    · rw [co_out (l := r) (by omega), co_out (l := m) (by omega)]; grind
  omega
theorem ev_prt {m r : List Rat} {x : Rat} : ev (prt m r) x = x ^ (r.length - m.length) * (ev m x * (ld r / ld m)) := by
  unfold prt
  rw [ev_app_rep]
  congr 1
  exact ev_scl m
theorem ev_stp {m r : List Rat} {x : Rat} : ev (stp m r) x = ev r x - x ^ (r.length - m.length) * (ev m x * (ld r / ld m)) := by
  unfold stp; rw [ev_takP, ev_prt]
inductive Rch (m l : List Rat) : Nat → List Rat → Prop
  | z : Rch m l 0 l
  | s {t : Nat} {r : List Rat} : Rch m l t r → m.length ≤ r.length → Rch m l (t + 1) (stp m r)
theorem Rch.trim {m l r : List Rat} {t : Nat} (tl : Trim l) (h : Rch m l t r) : Trim r := by
  cases h with
  | z => exact tl
  | s _ _ => exact Trim.takP
theorem Rch.len {m l r : List Rat} {t : Nat} (hm : m ≠ []) (tm : Trim m) (h : Rch m l t r) : r.length + t ≤ l.length := by
  induction h with
  | z => exact Nat.le_refl _
  | s h hl ih => have := stp_len hm tm hl; omega
def Cz (D : Int) (M : Nat) (l : List Rat) : Prop := ∀ k, ∃ n : Int, co l k * (D : Rat) = (n : Rat) ∧ n.natAbs < 2 ^ M
theorem intCast_ne {D : Int} (h : D ≠ 0) : (D : Rat) ≠ 0 := fun z => h (Rat.intCast_eq_zero_iff.mp z)
theorem Cz.bl {D : Int} {M d : Nat} {l : List Rat} (h : Cz D M l) (h0 : D ≠ 0) (hd : D.natAbs < 2 ^ d) (hp : 0 < d) : ∀ a ∈ l, Bd (d + M) a := fun a ha => by
  obtain ⟨k, rfl⟩ := mem_co ha
  obtain ⟨n, e, hn⟩ := h k
  have e2 : co l k = Rat.divInt n D := by
    have := intCast_ne h0
    rw [Rat.divInt_eq_div]; grind
  rw [e2]
  exact .divInt (by omega) (pow_up hn (by omega)) (pow_up hd (by omega))
end
section
set_option linter.all false
def absR (q : Rat) : Rat := if q < 0 then 0 - q else q
end
section
set_option linter.all false
set_option maxHeartbeats 1000000
def Df (d : List Rat) (f : Rat → Rat) : Prop := ∃ q : List Rat, ∀ x, f x = ev q x * ev d x
theorem Df.congr {d : List Rat} {f g : Rat → Rat} (h : Df d f) (e : ∀ x, g x = f x) : Df d g := by
  obtain ⟨q, hq⟩ := h; exact ⟨q, fun x => by rw [e, hq]⟩
theorem ev_one {x : Rat} : ev [1] x = 1 := by show 1 + x * 0 = 1; grind
theorem ev_const {a x : Rat} : ev [a] x = a := by show a + x * 0 = a; grind
theorem Df.refl (d : List Rat) : Df d (ev d) := ⟨[1], fun x => by rw [ev_one]; grind⟩
theorem Df.mulL {d : List Rat} {f : Rat → Rat} (h : Df d f) (a : List Rat) : Df d (fun x => ev a x * f x) := by
  obtain ⟨q, hq⟩ := h; exact ⟨G.mulR a q, fun x => by show ev a x * f x = _; rw [hq, ev_mulR]; grind⟩
theorem Df.mulR {d : List Rat} {f : Rat → Rat} (h : Df d f) (a : List Rat) : Df d (fun x => f x * ev a x) := (h.mulL a).congr fun x => by grind
theorem Df.add {d : List Rat} {f g : Rat → Rat} (h : Df d f) (k : Df d g) : Df d (fun x => f x + g x) := by
  obtain ⟨q, hq⟩ := h; obtain ⟨r, hr⟩ := k
  exact ⟨addR q r, fun x => by show f x + g x = _; rw [hq, hr, ev_addR]; grind⟩
theorem Df.smul {d : List Rat} {f : Rat → Rat} (h : Df d f) (s : Rat) : Df d (fun x => s * f x) := (h.mulL [s]).congr fun x => by rw [ev_const]
theorem Df.sub {d : List Rat} {f g : Rat → Rat} (h : Df d f) (k : Df d g) : Df d (fun x => f x - g x) := (h.add (k.smul (-1))).congr fun x => by grind
theorem Df.trans {d e : List Rat} {f : Rat → Rat} (h : Df d (ev e)) (k : Df e f) : Df d f := by
  obtain ⟨q, hq⟩ := h; obtain ⟨r, hr⟩ := k
  exact ⟨G.mulR r q, fun x => by rw [hr, hq, ev_mulR]; grind⟩
theorem Df.len {d l : List Rat} (td : Trim d) (tl : Trim l) (hl : l ≠ []) (h : Df d (ev l)) : d ≠ [] ∧ ∃ q, Trim q ∧ q ≠ [] ∧ l.length + 1 = q.length + d.length ∧ l = mulP q d := by
  obtain ⟨q, hq⟩ := h
  have e : l = mulP (trim q) d := ev_inj tl .mulP fun x => by rw [ev_mulP, ev_trim]; exact hq x
  have hd : d ≠ [] := fun z => by rw [z, mulP_nil] at e; exact hl e
  have hq0 : trim q ≠ [] := fun z => by rw [z] at e; exact hl (by rw [e]; rfl)
  refine ⟨hd, trim q, trim_trim _, hq0, ?_, e⟩
  have := mulP_len (trim_trim q) td hq0 hd
  rw [← e] at this
  have := List.length_pos_iff.mpr hd
  have := List.length_pos_iff.mpr hq0
  omega
theorem Df.le {d l : List Rat} (td : Trim d) (tl : Trim l) (hl : l ≠ []) (h : Df d (ev l)) : d.length ≤ l.length := by
  obtain ⟨_, q, _, h1, h2, _⟩ := h.len td tl hl
  have := List.length_pos_iff.mpr h1
  omega
theorem len1 {l : List Rat} (tl : Trim l) (hl : l ≠ []) (h : l.length ≤ 1) : ∃ a, a ≠ 0 ∧ l = [a] := by
  cases l with
  | nil => exact absurd rfl hl
  | cons a t =>
    cases t with
    | nil => exact ⟨a, tl.of_last (l := []), rfl⟩
    | cons b t => simp at h
theorem div_ex {m : List Rat} (hm : m ≠ []) (tm : Trim m) : ∀ (n : Nat) (l : List Rat), l.length ≤ n → Trim l → ∃ q r, Trim r ∧ r.length < m.length ∧ ∀ x, ev l x = ev q x * ev m x + ev r x
  | n, l, h, tl => by
    by_cases hl : l.length < m.length
    · exact ⟨[], l, tl, hl, fun x => by show ev l x = 0 * _ + _; grind⟩
    · have hp := List.length_pos_iff.mpr hm
      cases n with
      | zero => omega
      | succ n =>
        have hlt := stp_len hm tm (show m.length ≤ l.length by omega)
        obtain ⟨q, r, t1, t2, e⟩ := div_ex hm tm n (stp m l) (by omega) Trim.takP
        refine ⟨addR q (List.replicate (l.length - m.length) 0 ++ [ld l / ld m]), r, t1, t2, fun x => ?_⟩
        have := e x
        rw [ev_stp] at this
        rw [ev_addR, ev_app_rep, ev_const]
        grind
def Lin (p a b : List Rat) : Prop := ∃ u v : List Rat, ∀ x, ev p x = ev u x * ev a x + ev v x * ev b x
theorem Lin.l (a b : List Rat) : Lin a a b := ⟨[1], [], fun x => by rw [ev_one]; show _ = _ + 0 * _; grind⟩
theorem Lin.r (a b : List Rat) : Lin b a b := ⟨[], [1], fun x => by rw [ev_one]; show _ = 0 * _ + _; grind⟩
theorem Lin.comp {p a b c d : List Rat} (h : Lin p a b) (ha : Lin a c d) (hb : Lin b c d) : Lin p c d := by
  obtain ⟨u, v, h⟩ := h; obtain ⟨u1, v1, ha⟩ := ha; obtain ⟨u2, v2, hb⟩ := hb
  exact ⟨addR (mulR u u1) (mulR v u2), addR (mulR u v1) (mulR v v2), fun x => by
    rw [h, ha, hb]; simp only [ev_addR, ev_mulR]; grind⟩
theorem Lin.df {p a b d : List Rat} (h : Lin p a b) (ha : Df d (ev a)) (hb : Df d (ev b)) : Df d (ev p) := by
  obtain ⟨u, v, h⟩ := h
  exact ((ha.mulL u).add (hb.mulL v)).congr h
structure Gcd (g a' b' : List Rat) : Prop where
  t : Trim g
  a : Df g (ev a')
  b : Df g (ev b')
  l : Lin g a' b'
theorem gcd_ex : ∀ (n : Nat) (a b : List Rat), b.length ≤ n → Trim a → Trim b → ∃ g, Gcd g a b
  | n, a, b, h, ta, tb => by
    rcases Decidable.em (b = []) with rfl | hb
    · exact ⟨a, ta, .refl a, ⟨[], fun x => by show (0 : Rat) = 0 * _; grind⟩, .l a []⟩
    · have hp := List.length_pos_iff.mpr hb
      cases n with
      | zero => omega
      | succ n =>
        obtain ⟨q, r, tr, hr, e⟩ := div_ex hb tb a.length a (Nat.le_refl _) ta
        obtain ⟨g, tg, g1, g2, g3⟩ := gcd_ex n b r (by omega) tb tr
        refine ⟨g, tg, ((g1.mulL q).add g2).congr e, g1, g3.comp (.r a b) ?_⟩
        exact ⟨[1], takP [] q, fun x => by
          rw [ev_one, ev_takP, e]; show _ = _ + (0 - _) * _; grind⟩
def Cop (a b : List Rat) : Prop := ∃ u v : List Rat, ∀ x, ev u x * ev a x + ev v x * ev b x = 1
theorem Gcd.cop {g a b : List Rat} (h : Gcd g a b) (hg : g ≠ []) (h1 : g.length ≤ 1) : Cop a b := by
  obtain ⟨s, hs, rfl⟩ := len1 h.t hg h1
  obtain ⟨u, v, e⟩ := h.l
  refine ⟨mulR [1 / s] u, mulR [1 / s] v, fun x => ?_⟩
  have := e x
  rw [ev_const] at this
  simp only [ev_mulR, ev_const]
  have h2 : 1 / s * s = 1 := by rw [Rat.div_def, Rat.one_mul, Rat.inv_mul_cancel s hs]
  have : 1 / s * ev u x * ev a x + 1 / s * ev v x * ev b x = 1 / s * s := by rw [this]; grind
  rw [this, h2]
theorem Gcd.ne {g a b : List Rat} (h : Gcd g a b) (ta : Trim a) (ha : a ≠ []) : g ≠ [] := (h.a.len h.t ta ha).1
structure Irr (p : List Rat) : Prop where
  t : Trim p
  g : 1 < p.length
  o : ∀ d, Trim d → Df d (ev p) → d.length ≤ 1 ∨ d.length = p.length
theorem Irr.ne {p : List Rat} (h : Irr p) : p ≠ [] := fun z => by have := h.g; rw [z] at this; simp at this
theorem irr_ex : ∀ (n : Nat) (c : List Rat), c.length ≤ n → Trim c → 1 < c.length → ∃ p, Irr p ∧ Df p (ev c)
  | n, c, hn, tc, h1 => by
    by_cases h : Irr c
    · exact ⟨c, h, .refl c⟩
    · have : ∃ d, Trim d ∧ Df d (ev c) ∧ 1 < d.length ∧ d.length ≠ c.length := by
        refine Classical.byContradiction fun z => h ⟨tc, h1, fun d td hd => ?_⟩
        by_cases hh : d.length ≤ 1
        · exact .inl hh
        · exact .inr (Classical.byContradiction fun w => z ⟨d, td, hd, by omega, w⟩)
      obtain ⟨d, td, hd, d1, d2⟩ := this
      have hc : c ≠ [] := fun z => by rw [z] at h1; simp at h1
      have := hd.le td tc hc
      cases n with
      | zero => omega
      | succ n =>
        obtain ⟨p, hp, hpd⟩ := irr_ex n d (by omega) td d1
        exact ⟨p, hp, hpd.trans hd⟩
theorem Irr.prime {p a b : List Rat} (hp : Irr p) (ta : Trim a) (h : Df p (fun x => ev a x * ev b x)) : Df p (ev a) ∨ Df p (ev b) := by
  obtain ⟨g, hg⟩ := gcd_ex a.length p a (Nat.le_refl _) hp.t ta
  have gne := hg.ne hp.t hp.ne
  rcases hp.o g hg.t hg.a with h1 | h1
  · obtain ⟨u, v, e⟩ := hg.cop gne h1
    refine .inr (((Df.refl p).mulL (mulR u b)).add (h.mulL v) |>.congr fun x => ?_)
    have := e x
    rw [ev_mulR]
    have e2 : ev b x = ev b x * (ev u x * ev p x + ev v x * ev a x) := by rw [this]; grind
    rw [e2]; grind
  · obtain ⟨_, q, tq, nq, hl, e⟩ := hg.a.len hg.t hp.t hp.ne
    have q1 : q.length ≤ 1 := by omega
    obtain ⟨s, hs, rfl⟩ := len1 tq nq q1
    refine .inl (.trans ⟨[1 / s], fun x => ?_⟩ hg.b)
    rw [e, ev_mulP, ev_const, ev_const]
    have h2 : 1 / s * s = 1 := by rw [Rat.div_def, Rat.one_mul, Rat.inv_mul_cancel s hs]
    have : 1 / s * (s * ev g x) = (1 / s * s) * ev g x := by grind
    rw [this, h2]; grind
theorem slp_mul {c a b : List Rat} (h : ∀ x, ev c x = ev a x * ev b x) (x : Rat) : ev (slpR c) x = ev (slpR a) x * ev b x + ev a x * ev (slpR b) x := by
  have e : trim c = trim (mulR a b) := ev_inj (trim_trim _) (trim_trim _) fun x => by rw [ev_trim, ev_trim, ev_mulR]; exact h x
  rw [ev_slp, ev_slp, ev_slp, ← dv_trim c, e, dv_trim, dv_mulR]
theorem Irr.slope {p : List Rat} (hp : Irr p) : ¬ Df p (ev (slpR p)) := fun h => by
  have ne : slpR p ≠ [] := fun z => by have := slpR_len p; rw [z] at this; have := hp.g; simp at *; omega
  have := h.le hp.t hp.t.slp ne
  rw [slpR_len] at this
  have := hp.g
  omega
def Sq (f : List Rat) : Prop := ∀ p, Irr p → ¬ Df (mulR p p) (ev f)
theorem twice {p c : List Rat} (hp : Irr p) (h1 : Df p (ev c)) (h2 : Df p (ev (slpR c))) : Df (mulR p p) (ev c) := by
  obtain ⟨h, e⟩ := h1
  have e2 := slp_mul e
  have h3 : Df p (fun x => ev (slpR p) x * ev (trim h) x) := (h2.sub ((Df.refl p).mulL (slpR h))).congr fun x => by rw [e2, ev_trim]; grind
  rcases hp.prime hp.t.slp h3 with z | ⟨q, hq⟩
  · exact absurd z hp.slope
  · exact ⟨q, fun x => by have := hq x; rw [ev_trim] at this; rw [e, this, ev_mulR]; grind⟩
theorem Sq.cop {f g : List Rat} (h : Sq f) (tf : Trim f) (hf : f ≠ []) (hg : Gcd g f (slpR f)) : g.length ≤ 1 := by
  refine Classical.byContradiction fun z => ?_
  obtain ⟨p, hp, hd⟩ := irr_ex g.length g (Nat.le_refl _) hg.t (by omega)
  exact h p hp (twice hp (hd.trans hg.a) (hd.trans hg.b))
section
variable {c f g : List Rat} (tc : Trim c) (hc : c ≠ []) (hg : Gcd g c (slpR c)) (hf : ∀ x, ev c x = ev f x * ev g x)
include tc hc hg hf
end
theorem Sq.pick {s : List Rat} (ts : Trim s) (h1 : 1 < s.length) (hs : Sq s) : ∃ p q, Irr p ∧ Trim q ∧ q ≠ [] ∧ q.length < s.length ∧ (∀ x, ev s x = ev q x * ev p x) ∧ Sq q ∧ ¬ Df p (ev q) := by
  have ns : s ≠ [] := fun z => by rw [z] at h1; simp at h1
  obtain ⟨p, hp, hd⟩ := irr_ex s.length s (Nat.le_refl _) ts h1
  obtain ⟨_, q, tq, nq, hl, e⟩ := hd.len hp.t ts ns
  have := hp.g
  have e' : ∀ x, ev s x = ev q x * ev p x := fun x => by rw [e, ev_mulP]
  refine ⟨p, q, hp, tq, nq, by omega, e', fun r hr ⟨k, hk⟩ => hs r hr ⟨mulR k p, fun x => by rw [e', hk]; simp only [ev_mulR]; grind⟩, fun ⟨k, hk⟩ => hs p hp ⟨k, fun x => by rw [e', hk]; simp only [ev_mulR]; grind⟩⟩
theorem unit_df {s : List Rat} (ts : Trim s) (ns : s ≠ []) (h : s.length ≤ 1) (c : List Rat) : Df s (ev c) := by
  obtain ⟨a, ha, rfl⟩ := len1 ts ns h
  refine ⟨sclR (1 / a) c, fun x => ?_⟩
  have h2 : 1 / a * a = 1 := by rw [Rat.div_def, Rat.one_mul, Rat.inv_mul_cancel a ha]
  rw [ev_scl, ev_const]
  generalize 1 / a = b at *
  grind
theorem sq_once : ∀ (n : Nat) (s c : List Rat), s.length ≤ n → Trim s → s ≠ [] → Sq s → (∀ p, Irr p → Df p (ev s) → Df p (ev c)) → Df s (ev c)
  | n, s, c, hn, ts, ns, hs, h => by
    by_cases h1 : s.length ≤ 1
    · exact unit_df ts ns h1 c
    · obtain ⟨p, q, hp, tq, nq, hlt, e, sq, np⟩ := hs.pick ts (by omega)
      cases n with
      | zero => omega
      | succ n =>
        obtain ⟨k, hk⟩ := sq_once n q c (by omega) tq nq sq fun r hr hd => h r hr (((hd.mulR p)).congr fun x => e x)
        obtain ⟨m, hm⟩ := h p hp ⟨q, e⟩
        have d1 : Df p (fun x => ev q x * ev k x) := ⟨m, fun x => by have a := hk x; have b := hm x; grind⟩
        rcases hp.prime tq d1 with z | ⟨k1, hk1⟩
        · exact absurd z np
        · exact ⟨k1, fun x => by have a := hk x; have b := hk1 x; have d := e x; grind⟩
theorem mon_eq {a b : List Rat} (ta : Trim a) (tb : Trim b) (na : a ≠ []) (nb : b ≠ []) (ha : ld a = 1) (hb : ld b = 1) (h1 : Df a (ev b)) (h2 : Df b (ev a)) : a = b := by
  have l1 := h1.le ta tb nb
  have l2 := h2.le tb ta na
  obtain ⟨_, q, tq, nq, hl, e⟩ := h1.len ta tb nb
  obtain ⟨s, hs, rfl⟩ := len1 tq nq (by omega)
  have e2 : b = sclP a s := ev_inj tb .sclP fun x => by rw [e, ev_mulP, ev_const, ev_sclP]; grind
  have e3 : ld b = ld a * s := by
    show co b (b.length - 1) = co a (a.length - 1) * s
    rw [e2]
    unfold sclP
    rw [co_trim, co_scl]
    have : (trim (sclR s a)).length = a.length := by have h := e2; unfold sclP at h; rw [← h]; omega
    rw [this]
  rw [ha, hb] at e3
  have : s = 1 := by grind
  subst this
  exact ev_inj ta tb fun x => by rw [e2, ev_sclP]; grind
theorem gcd_one {g a b : List Rat} (h : Gcd g a b) (n : g ≠ []) (m : ld g = 1) (h1 : g.length ≤ 1) : g = [1] := by
  obtain ⟨a, _, rfl⟩ := len1 h.t n h1
  have : a = 1 := m
  rw [this]
theorem Cop.one {g a b : List Rat} (h : Cop a b) (hg : Gcd g a b) (n : g ≠ []) (m : ld g = 1) : g = [1] := by
  obtain ⟨u, v, e⟩ := h
  have d : Df g (ev [1]) := ((hg.a.mulL u).add (hg.b.mulL v)).congr fun x => by rw [ev_one]; exact (e x).symm
  exact gcd_one hg n m (d.le hg.t (Trim.last (l := []) (by decide)) (by simp))
end
section
set_option linter.all false
set_option maxHeartbeats 1000000
def ci (l : List Int) (k : Nat) : Int := l.getD k 0
def iA : List Int → List Int → List Int
  | [], m => m
  | l, [] => l
  | a :: l, b :: m => (a + b) :: iA l m
def iS (c : Int) (l : List Int) : List Int := l.map fun a => c * a
def iM : List Int → List Int → List Int
  | [], _ => []
  | a :: l, m => iA (iS a m) (0 :: iM l m)
theorem ci_nil (k : Nat) : ci [] k = 0 := by unfold ci; rfl
theorem ci_zero {a : Int} {l : List Int} : ci (a :: l) 0 = a := rfl
theorem ci_succ {a : Int} {l : List Int} {k : Nat} : ci (a :: l) (k + 1) = ci l k := rfl
theorem ci_iA : ∀ (l m : List Int) (k : Nat), ci (iA l m) k = ci l k + ci m k
  | [], m, k => by rw [ci_nil]; show ci m k = _; omega
  | a :: l, [], k => by rw [ci_nil]; show ci (a :: l) k = _; omega
  | a :: l, b :: m, 0 => rfl
  | a :: l, b :: m, k + 1 => ci_iA l m k
theorem ci_iS (c : Int) : ∀ (l : List Int) (k : Nat), ci (iS c l) k = c * ci l k
  | [], k => by show ci [] k = _; rw [ci_nil]; omega
  | a :: l, 0 => rfl
  | a :: l, k + 1 => ci_iS c l k
theorem ci_iM0 {a : Int} {l m : List Int} : ci (iM (a :: l) m) 0 = a * ci m 0 := by
  show ci (iA (iS a m) (0 :: iM l m)) 0 = _
  rw [ci_iA, ci_iS, ci_zero]; omega
theorem ci_iMs {a : Int} {l m : List Int} {k : Nat} : ci (iM (a :: l) m) (k + 1) = a * ci m (k + 1) + ci (iM l m) k := by
  show ci (iA (iS a m) (0 :: iM l m)) (k + 1) = _
  rw [ci_iA, ci_iS, ci_succ]
def eI : List Int → Int → Int
  | [], _ => 0
  | a :: l, x => a + x * eI l x
end
section
set_option linter.all false
set_option maxHeartbeats 1000000
def Cw (M : Nat) (l : List Rat) : Prop := ∃ D : Int, D ≠ 0 ∧ D.natAbs < 2 ^ M ∧ Cz D M l
theorem Cz.mono {D : Int} {M N : Nat} {l : List Rat} (h : Cz D M l) (e : M ≤ N) : Cz D N l := fun k => by
  obtain ⟨n, h1, h2⟩ := h k; exact ⟨n, h1, pow_up h2 e⟩
theorem Cw.mono {M N : Nat} {l : List Rat} (h : Cw M l) (e : M ≤ N) : Cw N l := by
  obtain ⟨D, h0, h1, h2⟩ := h
  exact ⟨D, h0, pow_up h1 e, h2.mono e⟩
theorem Cw.pos {M : Nat} {l : List Rat} (h : Cw M l) : 0 < M := Nat.pos_of_ne_zero fun z => by
  obtain ⟨D, h0, h1, _⟩ := h
  rw [z] at h1
  have : D.natAbs < 1 := h1
  omega
theorem Cw.bl {M : Nat} {l : List Rat} (h : Cw M l) : ∀ a ∈ l, Bd M a := fun a ha => by
  have hp := h.pos
  obtain ⟨D, h0, h1, h2⟩ := h
  obtain ⟨k, rfl⟩ := mem_co ha
  obtain ⟨n, e, hn⟩ := h2 k
  have e2 : co l k = Rat.divInt n D := by
    have := intCast_ne h0
    rw [Rat.divInt_eq_div]; grind
  rw [e2]
  exact .divInt hp hn h1
theorem Cw.of {K : Nat} {l : List Rat} (h : ∀ a ∈ l, Bd K a) : Cw (l.length * K + 1) l := by
  obtain ⟨D, h0, h1, h2⟩ := cm_of l h
  exact ⟨D, by omega, by rw [Int.natAbs_natCast]; exact h1, fun k => by
    obtain ⟨n, e, b⟩ := h2.co k
    exact ⟨n, by rw [Rat.intCast_natCast]; exact e, b⟩⟩
theorem Cw.nil {M : Nat} (h : 0 < M) : Cw M [] := ⟨1, by decide, Nat.one_lt_two_pow (by omega), fun k => ⟨0, by show co [] k * _ = _; rw [co_out (by simp)]; grind, Nat.two_pow_pos M⟩⟩
theorem Cz.list {D : Int} {M : Nat} {l : List Rat} (h : Cz D M l) : ∃ C : List Int, C.length = l.length ∧ (∀ k, co l k * (D : Rat) = ((ci C k : Int) : Rat)) ∧ ∀ k, (ci C k).natAbs < 2 ^ M := by
  refine ⟨(List.range l.length).map fun k => Classical.choose (h k), by simp, ?_⟩
  have e : ∀ k, ci ((List.range l.length).map fun k => Classical.choose (h k)) k = if k < l.length then Classical.choose (h k) else 0 := fun k => by
    unfold ci
    rw [List.getD_eq_getElem?_getD, List.getElem?_map]
    split
    · rename_i hk
      rw [List.getElem?_range hk]; rfl
    · rename_i hk
      rw [List.getElem?_eq_none (by rw [List.length_range]; omega)]; rfl
  refine ⟨fun k => ?_, fun k => ?_⟩ <;> rw [e]
  · split
    · exact (Classical.choose_spec (h k)).1
    · rw [co_out (by omega)]; rw [Rat.zero_mul]; rfl
  · split
    · exact (Classical.choose_spec (h k)).2
    · exact Nat.two_pow_pos M
theorem co_mulR0 {a : Rat} {l m : List Rat} : co (mulR (a :: l) m) 0 = a * co m 0 := by
  show co (addR (sclR a m) (0 :: mulR l m)) 0 = _
  rw [addR_co, co_scl]
  have : co (0 :: mulR l m) 0 = 0 := rfl
  rw [this]; grind
theorem co_mulRs {a : Rat} {l m : List Rat} {k : Nat} : co (mulR (a :: l) m) (k + 1) = a * co m (k + 1) + co (mulR l m) k := by
  show co (addR (sclR a m) (0 :: mulR l m)) (k + 1) = _
  rw [addR_co, co_scl]
  have : co (0 :: mulR l m) (k + 1) = co (mulR l m) k := rfl
  rw [this]; grind
theorem mul_ci {D E : Rat} : ∀ (l m : List Rat) (A B : List Int), A.length = l.length → (∀ k, co l k * D = ((ci A k : Int) : Rat)) → (∀ k, co m k * E = ((ci B k : Int) : Rat)) → ∀ k, co (mulR l m) k * (D * E) = ((ci (iM A B) k : Int) : Rat)
  | [], m, A, B, hl, _, _, k => by
    have : A = [] := List.length_eq_zero_iff.mp hl
    subst this
    show co [] k * _ = ((ci [] k : Int) : Rat)
    rw [ci_nil, co_out (by simp), Rat.zero_mul]; rfl
  | a :: l, m, [], B, hl, _, _, k => by simp at hl
  | a :: l, m, x :: A, B, hl, h1, h2, k => by
    have ha : a * D = (x : Rat) := h1 0
    cases k with
    | zero =>
      have e := h2 0
      rw [co_mulR0, ci_iM0, Rat.intCast_mul, ← ha, ← e]; grind
    | succ k =>
      have ih := mul_ci l m A B (by simpa using hl) (fun k => h1 (k + 1)) h2 k
      have e := h2 (k + 1)
      rw [co_mulRs, ci_iMs, Rat.intCast_add, Rat.intCast_mul, ← ha, ← e, ← ih]; grind
theorem iM_bd {V W : Nat} : ∀ (l m : List Int), (∀ k, (ci l k).natAbs ≤ V) → (∀ k, (ci m k).natAbs ≤ W) → ∀ k, (ci (iM l m) k).natAbs ≤ l.length * (V * W)
  | [], m, _, _, k => by show (ci [] k).natAbs ≤ _; rw [ci_nil]; exact Nat.zero_le _
  | a :: l, m, h1, h2, k => by
    have ha : a.natAbs ≤ V := h1 0
    have ih := iM_bd l m (fun k => h1 (k + 1)) h2
    rw [List.length_cons, Nat.succ_mul]
    cases k with
    | zero =>
      rw [ci_iM0, Int.natAbs_mul]
      have := Nat.mul_le_mul ha (h2 0)
      omega
    | succ k =>
      rw [ci_iMs]
      have e1 : (a * ci m (k + 1)).natAbs ≤ V * W := by rw [Int.natAbs_mul]; exact Nat.mul_le_mul ha (h2 _)
      have e2 := ih k
      omega
theorem Cw.mul {A B : Nat} {l m : List Rat} (h1 : Cw A l) (h2 : Cw B m) (hl : l.length ≤ 16) : Cw (A + B + 4) (mulP l m) := by
  obtain ⟨D, d0, d1, d2⟩ := h1
  obtain ⟨E, e0, e1, e2⟩ := h2
  obtain ⟨X, lx, x1, x2⟩ := d2.list
  obtain ⟨Y, ly, y1, y2⟩ := e2.list
  refine ⟨D * E, Int.mul_ne_zero d0 e0, by rw [Int.natAbs_mul]; exact pow_up (lt_mul d1 e1) (by omega), fun k => ⟨ci (iM X Y) k, ?_, ?_⟩⟩
  · unfold mulP
    rw [co_trim, Rat.intCast_mul]
    exact mul_ci l m X Y lx x1 y1 k
  · have hb := iM_bd (V := 2 ^ A - 1) (W := 2 ^ B - 1) X Y (fun k => by have := x2 k; omega) (fun k => by have := y2 k; omega) k
    have hpA := Nat.two_pow_pos A
    have hpB := Nat.two_pow_pos B
    have h3 : (2 ^ A - 1) * (2 ^ B - 1) < 2 ^ A * 2 ^ B := Nat.mul_lt_mul_of_lt_of_le (by omega) (by omega) (by omega)
    have h4 : X.length * ((2 ^ A - 1) * (2 ^ B - 1)) ≤ 16 * ((2 ^ A - 1) * (2 ^ B - 1)) := Nat.mul_le_mul_right _ (by omega)
    have h5 : 2 ^ (A + B + 4) = 16 * (2 ^ A * 2 ^ B) := by rw [Nat.pow_add, Nat.pow_add]; omega
    rw [h5]; omega
theorem Cw.scl {A s : Nat} {l : List Rat} {c : Rat} (h : Cw A l) (bc : Bd s c) : Cw (A + s) (sclP l c) := by
  obtain ⟨D, d0, d1, d2⟩ := h
  refine ⟨D * c.den, Int.mul_ne_zero d0 (den_ne c), by rw [Int.natAbs_mul]; exact lt_mul d1 bc.2, fun k => ?_⟩
  obtain ⟨n, e, hn⟩ := d2 k
  refine ⟨n * c.num, ?_, by rw [Int.natAbs_mul]; exact lt_mul hn bc.1⟩
  unfold sclP
  rw [co_trim, co_scl, Rat.intCast_mul, Rat.intCast_mul, ← e, Rat.intCast_natCast, ← num_den c]; grind
theorem co_slp {l : List Rat} {k : Nat} : co (slpR l) k = co l (k + 1) * ((k + 1 : Nat) : Rat) := by
  by_cases h : k < l.length - 1
  · unfold slpR
    have e : co ((List.range (l.length - 1)).map fun k => co l (k + 1) * ((k + 1 : Nat) : Rat)) k = co l (k + 1) * ((k + 1 : Nat) : Rat) := by
      rw [show co ((List.range (l.length - 1)).map fun k => co l (k + 1) * ((k + 1 : Nat) : Rat)) k = ((List.range (l.length - 1)).map fun k => co l (k + 1) * ((k + 1 : Nat) : Rat)).getD k 0 from rfl]
      rw [List.getD_eq_getElem?_getD, List.getElem?_map, List.getElem?_range h]; rfl
    exact e
  · rw [co_out (by rw [slpR_len]; omega), co_out (l := l) (by omega), Rat.zero_mul]
theorem Cw.slp {A : Nat} {l : List Rat} (h : Cw A l) (hl : l.length ≤ 16) : Cw (A + 4) (slpR l) := by
  obtain ⟨D, d0, d1, d2⟩ := h
  refine ⟨D, d0, pow_up d1 (by omega), fun k => ?_⟩
  by_cases hk : k + 1 < l.length
  · obtain ⟨n, e, hn⟩ := d2 (k + 1)
    refine ⟨n * ((k + 1 : Nat) : Int), ?_, by rw [Int.natAbs_mul, Int.natAbs_natCast]; exact lt_mul hn (show k + 1 < 16 by omega)⟩
    rw [co_slp, Rat.intCast_mul, ← e, Rat.intCast_natCast]; grind
  · exact ⟨0, by rw [co_slp, co_out (by omega), Rat.zero_mul, Rat.zero_mul]; rfl, Nat.two_pow_pos _⟩
theorem Cz.neg {D : Int} {M : Nat} {l : List Rat} (h : Cz D M l) : Cz (-D) M l := fun k => by
  obtain ⟨n, e, hn⟩ := h k
  exact ⟨-n, by rw [Rat.intCast_neg, Rat.intCast_neg, ← e]; grind, by rw [Int.natAbs_neg]; exact hn⟩
theorem Cw.cm {M : Nat} {l : List Rat} (h : Cw M l) : ∃ E : Nat, 0 < E ∧ E < 2 ^ M ∧ Cm E M l := by
  obtain ⟨D, d0, d1, d2⟩ := h
  refine ⟨D.natAbs, by omega, d1, fun a ha => ?_⟩
  obtain ⟨k, rfl⟩ := mem_co ha
  rcases Int.natAbs_eq D with e | e
  · obtain ⟨n, h1, h2⟩ := d2 k
    exact ⟨n, by rw [← Rat.intCast_natCast, ← e]; exact h1, h2⟩
  · obtain ⟨n, h1, h2⟩ := d2.neg k
    exact ⟨n, by rw [← Rat.intCast_natCast, show ((D.natAbs : Nat) : Int) = -D by omega]; exact h1, h2⟩
end
section
set_option linter.all false
set_option maxHeartbeats 1000000
def NC (f g : List Rat) : Prop := ∀ p, Irr p → Df p (ev f) → ¬ Df p (ev g)
theorem NC.symm {f g : List Rat} (h : NC f g) : NC g f := fun p hp a b => h p hp b a
structure Fac (f : List Rat) : Prop where
  t : Trim f
  g : 1 < f.length
  m : ld f = 1
  s : Sq f
theorem Fac.ne {f : List Rat} (h : Fac f) : f ≠ [] := fun z => by have := h.g; rw [z] at this; simp at this
def Fam : List (List Rat) → Prop
  | [] => True
  | f :: fs => Fac f ∧ (∀ g ∈ fs, NC f g) ∧ Fam fs
theorem Fam.nc : ∀ {fs : List (List Rat)}, Fam fs → ∀ {i j : Nat} {f g : List Rat}, fs[i]? = some f → fs[j]? = some g → i ≠ j → NC f g
  | [], _, i, j, f, g, h, _, _ => by simp at h
  | a :: fs, ⟨_, h1, h2⟩, 0, 0, f, g, _, _, n => absurd rfl n
  | a :: fs, ⟨_, h1, h2⟩, 0, j + 1, f, g, e1, e2, _ => by cases e1; exact h1 g (List.mem_iff_getElem?.mpr ⟨j, e2⟩)
  | a :: fs, ⟨_, h1, h2⟩, i + 1, 0, f, g, e1, e2, _ => by cases e2; exact (h1 f (List.mem_iff_getElem?.mpr ⟨i, e1⟩)).symm
  | a :: fs, ⟨_, h1, h2⟩, i + 1, j + 1, f, g, e1, e2, n => Fam.nc h2 e1 e2 (by omega)
theorem fac_lin (a : Rat) : Fac [0 - a, 1] := ⟨Trim.last (l := [0 - a]) (by decide), by simp, rfl, fun p hp h => by
  have tp : Trim (mulP p p) := Trim.mulP
  have h2 : Df (mulP p p) (ev [0 - a, 1]) := by
    obtain ⟨m, hm⟩ := h
    exact ⟨m, fun x => by rw [hm, ev_mulR, ev_mulP]⟩
  have l1 := h2.le tp (Trim.last (l := [0 - a]) (by decide)) (by simp)
  have l2 := mulP_len hp.t hp.t hp.ne hp.ne
  have := hp.g
  simp at l1; omega⟩
theorem ev_lin' {a x : Rat} : ev [0 - a, 1] x = x - a := by show 0 - a + x * (1 + x * 0) = _; grind
end
section
set_option linter.all false
set_option maxHeartbeats 1000000
end
section
set_option linter.all false
set_option maxHeartbeats 1000000
theorem irr_lin (a : Rat) : Irr [0 - a, 1] := ⟨(fac_lin a).t, by simp, fun d td hd => by
  have := hd.le td (fac_lin a).t (by simp)
  simp at this ⊢
  omega⟩
theorem df_lin {l : List Rat} {a : Rat} (h : Df [0 - a, 1] (ev l)) : ev l a = 0 := by
  obtain ⟨q, hq⟩ := h
  rw [hq, ev_lin']; grind
theorem lin_df {l : List Rat} {a : Rat} (tl : Trim l) (h : ev l a = 0) : Df [0 - a, 1] (ev l) := by
  obtain ⟨q, r, tr, hr, e⟩ := div_ex (m := [0 - a, 1]) (by simp) (fac_lin a).t l.length l (Nat.le_refl _) tl
  refine ⟨q, fun x => ?_⟩
  have hr1 : r.length ≤ 1 := by simp at hr; omega
  rcases Decidable.em (r = []) with z | z
  · rw [e, z]; show _ + 0 = _; grind
  · obtain ⟨s, hs, rfl⟩ := len1 tr z hr1
    have := e a
    rw [h, ev_lin', ev_const] at this
    exact absurd (by grind : s = 0) hs
structure PlainOf (D c : List Rat) : Prop where
  t : Trim D
  n : D ≠ []
  l : ld D = 1
  d : Df D (ev c)
  s : Sq D
  a : ∀ p, Irr p → Df p (ev c) → Df p (ev D)
theorem PlainOf.one {D E c : List Rat} (h : PlainOf D c) (k : PlainOf E c) : D = E :=
  mon_eq h.t k.t h.n k.n h.l k.l (sq_once D.length D E (Nat.le_refl _) h.t h.n h.s fun p hp hd => k.a p hp (hd.trans h.d)) (sq_once E.length E D (Nat.le_refl _) k.t k.n k.s fun p hp hd => h.a p hp (hd.trans k.d))
theorem PlainOf.zero {D c : List Rat} (h : PlainOf D c) (tc : Trim c) {x : Rat} : ev D x = 0 ↔ ev c x = 0 := by
  constructor
  · intro z
    obtain ⟨q, hq⟩ := h.d
    rw [hq, z]; grind
  · intro z
    exact df_lin (h.a _ (irr_lin x) (lin_df tc z))
end
section
set_option linter.all false
set_option maxHeartbeats 1000000
def sI (f : Nat → Int) : Nat → Int
  | 0 => 0
  | n + 1 => sI f n + f n
end
section
set_option linter.all false
set_option maxHeartbeats 1000000
def ch : Nat → Nat → Nat
  | _, 0 => 1
  | 0, _ + 1 => 0
  | n + 1, k + 1 => ch n k + ch n (k + 1)
theorem ch_zero (n : Nat) : ch n 0 = 1 := by cases n <;> rfl
theorem ch_succ (n k : Nat) : ch (n + 1) (k + 1) = ch n k + ch n (k + 1) := rfl
theorem ch_out : ∀ {n k : Nat}, n < k → ch n k = 0
  | 0, k + 1, _ => rfl
  | n + 1, k + 1, h => by rw [ch_succ, ch_out (by omega), ch_out (by omega)]
theorem ch_le : ∀ (n k : Nat), ch n k ≤ 2 ^ n
  | _, 0 => by rw [ch_zero]; exact Nat.one_le_two_pow
  | 0, _ + 1 => Nat.zero_le _
  | n + 1, k + 1 => by
    rw [ch_succ, Nat.pow_succ]
    have := ch_le n k
    have := ch_le n (k + 1)
    omega
theorem nc0 : ((0 : Nat) : Rat) = 0 := rfl
theorem nc1 : ((1 : Nat) : Rat) = 1 := rfl
def sm (f : Nat → Rat) : Nat → Rat
  | 0 => 0
  | n + 1 => sm f n + f n
theorem sm_succ (f : Nat → Rat) (n : Nat) : sm f (n + 1) = sm f n + f n := rfl
theorem sm_ext {f g : Nat → Rat} : ∀ {n : Nat}, (∀ k < n, f k = g k) → sm f n = sm g n
  | 0, _ => rfl
  | n + 1, h => by rw [sm_succ, sm_succ, sm_ext fun k hk => h k (by omega), h n (by omega)]
theorem sm_add {f g : Nat → Rat} : ∀ {n : Nat}, sm (fun k => f k + g k) n = sm f n + sm g n
  | 0 => by show (0 : Rat) = 0 + 0; grind
  | n + 1 => by rw [sm_succ, sm_succ, sm_succ, sm_add]; grind
theorem sm_mul {f : Nat → Rat} {c : Rat} : ∀ {n : Nat}, sm (fun k => c * f k) n = c * sm f n
  | 0 => by show (0 : Rat) = c * 0; grind
  | n + 1 => by rw [sm_succ, sm_succ, sm_mul]; grind
theorem sm_shift {f : Nat → Rat} : ∀ {n : Nat}, sm f (n + 1) = f 0 + sm (fun k => f (k + 1)) n
  | 0 => by show (0 : Rat) + f 0 = f 0 + 0; grind
  | n + 1 => by rw [sm_succ, sm_shift, sm_succ]; grind
def bn (t : Rat) : Nat → (Nat → Rat) → Rat
  | 0, b => b 0
  | n + 1, b => (1 - t) * bn t n b + t * bn t n (fun k => b (k + 1))
def bsum (t : Rat) (n : Nat) (b : Nat → Rat) : Rat := sm (fun k => (ch n k : Rat) * b k * t ^ k * (1 - t) ^ (n - k)) (n + 1)
theorem bsum_bn {t : Rat} : ∀ (n : Nat) (b : Nat → Rat), bsum t n b = bn t n b
  | 0, b => by
    show 0 + ((1 : Nat) : Rat) * b 0 * t ^ 0 * (1 - t) ^ 0 = b 0
    rw [Rat.pow_zero, Rat.pow_zero, nc1]; grind
  | n + 1, b => by
    show _ = (1 - t) * bn t n b + t * bn t n (fun k => b (k + 1))
    rw [← bsum_bn n b, ← bsum_bn n (fun k => b (k + 1))]
    unfold bsum
    have hA : (1 - t) * sm (fun k => (ch n k : Rat) * b k * t ^ k * (1 - t) ^ (n - k)) (n + 1) = sm (fun k => (ch n k : Rat) * b k * t ^ k * (1 - t) ^ (n + 1 - k)) (n + 1) := by
      rw [← sm_mul]
      refine sm_ext fun k hk => ?_
      have : n + 1 - k = (n - k) + 1 := by omega
      rw [this, Rat.pow_succ]; grind
    have hB : t * sm (fun k => (ch n k : Rat) * b (k + 1) * t ^ k * (1 - t) ^ (n - k)) (n + 1) = sm (fun k => (ch n k : Rat) * b (k + 1) * t ^ (k + 1) * (1 - t) ^ (n - k)) (n + 1) := by
      rw [← sm_mul]
      refine sm_ext fun k hk => ?_
      rw [Rat.pow_succ]; grind
    rw [hA, hB, sm_shift (f := fun k => (ch (n + 1) k : Rat) * b k * t ^ k * (1 - t) ^ (n + 1 - k)) (n := n + 1), sm_shift (f := fun k => (ch n k : Rat) * b k * t ^ k * (1 - t) ^ (n + 1 - k)) (n := n)]
    have hC : sm (fun k => (ch (n + 1) (k + 1) : Rat) * b (k + 1) * t ^ (k + 1) * (1 - t) ^ (n + 1 - (k + 1))) (n + 1) = sm (fun k => (ch n k : Rat) * b (k + 1) * t ^ (k + 1) * (1 - t) ^ (n - k)) (n + 1) + sm (fun k => (ch n (k + 1) : Rat) * b (k + 1) * t ^ (k + 1) * (1 - t) ^ (n + 1 - (k + 1))) n := by
      have h1 : sm (fun k => (ch (n + 1) (k + 1) : Rat) * b (k + 1) * t ^ (k + 1) * (1 - t) ^ (n + 1 - (k + 1))) (n + 1) = sm (fun k => (ch n k : Rat) * b (k + 1) * t ^ (k + 1) * (1 - t) ^ (n - k) + (ch n (k + 1) : Rat) * b (k + 1) * t ^ (k + 1) * (1 - t) ^ (n + 1 - (k + 1))) (n + 1) := sm_ext fun k hk => by
        have : n + 1 - (k + 1) = n - k := by omega
        rw [ch_succ, Rat.natCast_add, this]; grind
      rw [h1, sm_add]
      congr 1
      rw [sm_succ, ch_out (show n < n + 1 by omega), nc0]; grind
    rw [hC, ch_zero, ch_zero]; grind
end
section
set_option linter.all false
set_option maxHeartbeats 1000000
def gn (x y : Rat) : Nat → (Nat → Rat) → Rat
  | 0, b => b 0
  | n + 1, b => x * gn x y n b + y * gn x y n (fun k => b (k + 1))
theorem gn_succ {x y : Rat} {n : Nat} {b : Nat → Rat} : gn x y (n + 1) b = x * gn x y n b + y * gn x y n (fun k => b (k + 1)) := rfl
def ms (x y : Rat) (b : Nat → Rat) : Nat → Rat := fun k => x * b k + y * b (k + 1)
def gsum (x y : Rat) (n : Nat) (b : Nat → Rat) : Rat := sm (fun k => (ch n k : Rat) * b k * y ^ k * x ^ (n - k)) (n + 1)
theorem gsum_gn {x y : Rat} : ∀ (n : Nat) (b : Nat → Rat), gsum x y n b = gn x y n b
  | 0, b => by
    show 0 + ((1 : Nat) : Rat) * b 0 * y ^ 0 * x ^ 0 = b 0
    rw [Rat.pow_zero, Rat.pow_zero, nc1]; grind
  | n + 1, b => by
    rw [gn_succ, ← gsum_gn n b, ← gsum_gn n (fun k => b (k + 1))]
    unfold gsum
    have hA : x * sm (fun k => (ch n k : Rat) * b k * y ^ k * x ^ (n - k)) (n + 1) = sm (fun k => (ch n k : Rat) * b k * y ^ k * x ^ (n + 1 - k)) (n + 1) := by
      rw [← sm_mul]
      refine sm_ext fun k hk => ?_
      have : n + 1 - k = (n - k) + 1 := by omega
      rw [this, Rat.pow_succ]; grind
    have hB : y * sm (fun k => (ch n k : Rat) * b (k + 1) * y ^ k * x ^ (n - k)) (n + 1) = sm (fun k => (ch n k : Rat) * b (k + 1) * y ^ (k + 1) * x ^ (n - k)) (n + 1) := by
      rw [← sm_mul]
      refine sm_ext fun k hk => ?_
      rw [Rat.pow_succ]; grind
    rw [hA, hB, sm_shift (f := fun k => (ch (n + 1) k : Rat) * b k * y ^ k * x ^ (n + 1 - k)) (n := n + 1), sm_shift (f := fun k => (ch n k : Rat) * b k * y ^ k * x ^ (n + 1 - k)) (n := n)]
    have hC : sm (fun k => (ch (n + 1) (k + 1) : Rat) * b (k + 1) * y ^ (k + 1) * x ^ (n + 1 - (k + 1))) (n + 1) = sm (fun k => (ch n k : Rat) * b (k + 1) * y ^ (k + 1) * x ^ (n - k)) (n + 1) + sm (fun k => (ch n (k + 1) : Rat) * b (k + 1) * y ^ (k + 1) * x ^ (n + 1 - (k + 1))) n := by
      have h1 : sm (fun k => (ch (n + 1) (k + 1) : Rat) * b (k + 1) * y ^ (k + 1) * x ^ (n + 1 - (k + 1))) (n + 1) = sm (fun k => (ch n k : Rat) * b (k + 1) * y ^ (k + 1) * x ^ (n - k) + (ch n (k + 1) : Rat) * b (k + 1) * y ^ (k + 1) * x ^ (n + 1 - (k + 1))) (n + 1) := sm_ext fun k hk => by
        have : n + 1 - (k + 1) = n - k := by omega
        rw [ch_succ, Rat.natCast_add, this]; grind
      rw [h1, sm_add]
      congr 1
      rw [sm_succ, ch_out (show n < n + 1 by omega), nc0]; grind
    rw [hC, ch_zero, ch_zero]; grind
def rs (n : Nat) (b : Nat → Rat) (k : Nat) : Rat := b k + ((k : Rat) / ((n + 1 : Nat) : Rat)) * (b (k - 1) - b k)
def df (j : Nat) (b : Nat → Rat) : Rat := gn (-1) 1 j b
theorem one_pow : ∀ k : Nat, (1 : Rat) ^ k = 1
  | 0 => Rat.pow_zero _
  | k + 1 => by rw [Rat.pow_succ, one_pow k]; grind
def pw (n : Nat) (b : Nat → Rat) (j : Nat) : Rat := (ch n j : Rat) * df j b
theorem df_sum {j : Nat} {b : Nat → Rat} : df j b = sm (fun i => ((ch j i : Rat) * (-1) ^ (j - i)) * b i) (j + 1) := by
  unfold df
  rw [← gsum_gn]
  unfold gsum
  exact sm_ext fun k hk => by rw [one_pow]; grind
end
section
set_option linter.all false
set_option maxHeartbeats 1000000
theorem absR_nn {q : Rat} : 0 ≤ absR q := by unfold absR; split <;> grind
end
section
set_option linter.all false
set_option maxHeartbeats 2000000
set_option maxRecDepth 10000
open PySem
def fd_show_number : FD := ⟨1, 1, [.ifs (.cmp .eq (.ix (.bor 0) (.cst (.int 1))) (.cst (.int 1))) [.ret (.blt .str [(.ix (.bor 0) (.cst (.int 0)))])] [], .ret (.bin .add (.bin .add (.blt .str [(.ix (.bor 0) (.cst (.int 0)))]) (.cst (.str "/"))) (.blt .str [(.ix (.bor 0) (.cst (.int 1)))]))]⟩
def fd_power_shown : FD := ⟨1, 1, [.ifs (.cmp .eq (.bor 0) (.cst (.int 0))) [.ret (.cst (.str ""))] [], .ifs (.cmp .eq (.bor 0) (.cst (.int 1))) [.ret (.cst (.str "x"))] [], .ret (.bin .add (.cst (.str "x^")) (.blt .str [(.bor 0)]))]⟩
def fd_term_shown : FD := ⟨2, 3, [.set 2 (.tup [(.blt .abs [(.ix (.bor 0) (.cst (.int 0)))]), (.ix (.bor 0) (.cst (.int 1)))]), .ifs (.cmp .eq (.bor 1) (.cst (.int 0))) [.ret (.call 105 [(.nm 2)])] [], .ifs (.cmp .eq (.bor 2) (.tup [(.cst (.int 1)), (.cst (.int 1))])) [.ret (.call 109 [(.nm 1)])] [], .ret (.bin .add (.bin .add (.call 105 [(.nm 2)]) (.cst (.str " "))) (.call 109 [(.nm 1)]))]⟩
def fd_show_curve : FD := ⟨1, 4, [.set 1 (.cst (.str "")), .for (.one 2) (.rng1 (.blt .len [(.bor 0)])) [.set 3 (.cmp .lt (.call 3 [(.ix (.bor 0) (.bor 2))]) (.cst (.int 0))), .ifs (.and (.cmp .ne (.ix (.bor 0) (.bor 2)) (.cst (.tup [(.int 0), (.int 1)]))) (.cmp .eq (.bor 1) (.cst (.str "")))) [.set 1 (.bin .add (.ix (.lst [(.cst (.str "")), (.cst (.str "-"))]) (.blt .int [(.bor 3)])) (.call 110 [(.ix (.bor 0) (.bor 2)), (.nm 2)]))] [.ifs (.cmp .ne (.ix (.bor 0) (.bor 2)) (.cst (.tup [(.int 0), (.int 1)]))) [.set 1 (.bin .add (.bin .add (.bor 1) (.ix (.lst [(.cst (.str " + ")), (.cst (.str " - "))]) (.blt .int [(.bor 3)]))) (.call 110 [(.ix (.bor 0) (.bor 2)), (.nm 2)]))] []]], .ifs (.cmp .eq (.bor 1) (.cst (.str ""))) [.ret (.cst (.str "0"))] [], .ret (.nm 1)]⟩
namespace Tx
structure SOk (n : Nat) (s : Str) : Prop where
  c : PyData.strOk s = true
  l : s.length ≤ n
theorem strOk_iff {s : Str} : PyData.strOk s = true ↔ ∀ c ∈ s.cps.toList, c < 1114112 := by
  unfold PyData.strOk
  rw [← Array.all_toList, List.all_eq_true]
  simp only [decide_eq_true_iff]
theorem SOk.app {m n : Nat} {s t : Str} (h : SOk m s) (g : SOk n t) : SOk (m + n) (s ++ t) := by
  refine ⟨strOk_iff.mpr fun c hc => ?_, by rw [Str.length_append]; have := h.l; have := g.l; omega⟩
  rw [Str.cps_append, Array.toList_append, List.mem_append] at hc
  exact hc.elim (strOk_iff.mp h.c c) (strOk_iff.mp g.c c)
theorem SOk.mono {m n : Nat} {s : Str} (h : SOk m s) (e : m ≤ n) : SOk n s := ⟨h.c, Nat.le_trans h.l e⟩
theorem sok_of (x : String) : SOk x.toList.length (Str.ofString x) := by
  refine ⟨strOk_iff.mpr fun c hc => ?_, by rw [PyProof.Rows.ofString_length]; exact Nat.le_refl _⟩
  rw [Str.ofString_eq_toList] at hc
  have hc : c ∈ List.map Char.toNat x.toList := hc
  obtain ⟨ch, _, rfl⟩ := List.mem_map.mp hc
  have := ch.valid
  have v : ch.val.toNat < 1114112 := by
    rcases this with h | ⟨_, h⟩
    · exact Nat.lt_trans h (by decide)
    · exact h
  exact v
theorem SOk.dn {n : Nat} {s : Str} (h : SOk n s) : Dn 0 (.str s) := ⟨rfl, by show (PyData.str s).canLay0 = true; simp only [PyData.canLay0]; exact h.c, Nat.zero_le _⟩
theorem s_eq {m n : Nat} {s t : Str} (h : SOk m s) (g : SOk n t) : evCmp .eq (.str s) (.str t) = .ok (.bl (s == t)) := by
  rw [c_eqV h.dn g.dn (by decide) (by decide), vEq_str]
theorem s_ne {m n : Nat} {s t : Str} (h : SOk m s) (g : SOk n t) : evCmp .ne (.str s) (.str t) = .ok (.bl (!(s == t))) := by
  rw [c_neV h.dn g.dn (by decide) (by decide), vEq_str]
def toS (i : Int) : Str := Str.ofString (toString i)
theorem toS_nat (n : Nat) : toS (n : Int) = Str.ofString (String.ofList (Nat.toDigits 10 n)) := by
  unfold toS
  rw [show toString ((n : Nat) : Int) = toString n from rfl, Nat.toString_eq_ofList_toDigits]
theorem toS_sok {n k : Nat} (hk : 1 ≤ k) (h : n < 10 ^ k) : SOk k (toS (n : Int)) := by
  rw [toS_nat]
  have := sok_of (String.ofList (Nat.toDigits 10 n))
  rw [String.toList_ofList] at this
  exact this.mono ((Nat.length_toDigits_le_iff (by decide) hk).mpr h)
theorem toS_pos (n : Nat) : 0 < (toS (n : Int)).length := by
  rw [toS_nat, PyProof.Rows.ofString_length, String.toList_ofList]
  exact Nat.length_toDigits_pos
theorem log_ok {n : Nat} (h : n < 10 ^ 40) : decide (((n : Nat) : Int).natAbs.log2 < 1920) = true := by
  rw [Int.natAbs_natCast, decide_eq_true_iff]
  by_cases z : n = 0
  · subst z; decide
  · rw [Nat.log2_lt z]
    exact Nat.lt_trans h (by decide +kernel)
theorem str_ev {n : Nat} (h : n < 10 ^ 40) : evBf .str [.int (n : Int)] = .ok (.str (toS n)) := by
  show (if decide (((n : Nat) : Int).natAbs.log2 < 1920) = true then G.R.ok (Val.str (toS n)) else .bad) = _
  rw [if_pos (log_ok h)]
theorem add_ev {m n : Nat} {s t : Str} (h : SOk m s) (g : SOk n t) (e : m + n ≤ 1000000) : evBin .add (.str s) (.str t) = .ok (.str (s ++ t)) := by
  rw [b_addS, if_pos (lenOk_lit (by have := h.l; have := g.l; omega))]
theorem of_empty : Str.ofString "" = Str.empty := PyProof.Rows.ofString_empty
def cat : List Str → Str
  | [] => Str.empty
  | s :: r => s ++ cat r
theorem app_empty {s : Str} : s ++ Str.empty = s := Str.append_right_empty (by rfl)
theorem empty_app {s : Str} : Str.empty ++ s = s := Str.append_left_empty (by rfl)
theorem cat_snoc {s : Str} : ∀ l : List Str, cat (l ++ [s]) = cat l ++ s
  | [] => by show s ++ Str.empty = Str.empty ++ s; rw [app_empty, empty_app]
  | a :: l => by show a ++ cat (l ++ [s]) = a ++ cat l ++ s; rw [cat_snoc l, Str.append_assoc]
def Sz (q : Rat) : Prop := q.num.natAbs < 10 ^ 40 ∧ q.den < 10 ^ 40
def numS (q : Rat) : Str := if q.den = 1 then toS q.num else toS q.num ++ Str.ofString "/" ++ toS q.den
theorem num_nat {q : Rat} (h : 0 ≤ q) : q.num = (q.num.natAbs : Int) := by have := Rat.num_nonneg.mpr h; omega
theorem sl_sok : SOk 1 (Str.ofString "/") := (sok_of "/").mono (by decide)
theorem sp_sok : SOk 1 (Str.ofString " ") := (sok_of " ").mono (by decide)
theorem numS_sok {q : Rat} (h : 0 ≤ q) (z : Sz q) : SOk 81 (numS q) := by
  unfold numS
  have e := num_nat h
  split
  · rw [e]; exact (toS_sok (by decide) z.1).mono (by decide)
  · rw [e]; exact ((toS_sok (k := 40) (by decide) z.1).app sl_sok).app (toS_sok (k := 40) (by decide) z.2)
theorem absR_num {q : Rat} : (absR q).num = (q.num.natAbs : Int) ∧ (absR q).den = q.den := by
  unfold absR
  split
  · rename_i h
    have e : (0 : Rat) - q = -q := by grind
    rw [e]
    have := Rat.num_nonneg.mpr (show (0 : Rat) ≤ -q by grind)
    rw [Rat.neg_num] at this
    exact ⟨by rw [Rat.neg_num]; omega, by rw [Rat.neg_den]⟩
  · rename_i h
    exact ⟨num_nat (Rat.not_lt.mp h), rfl⟩
theorem Sz.abs {q : Rat} (z : Sz q) : Sz (absR q) := ⟨by rw [absR_num.1]; exact z.1, by rw [absR_num.2]; exact z.2⟩
theorem nv_abs {q : Rat} : Val.tup [.int (q.num.natAbs : Int), .int (q.den : Int)] = nv (absR q) := by
  show _ = Val.tup [.int (absR q).num, .int ((absR q).den : Int)]
  rw [absR_num.1, absR_num.2]
def powS (k : Nat) : Str := if k = 0 then Str.empty else if k = 1 then Str.ofString "x" else Str.ofString "x^" ++ toS k
theorem powS_sok {k : Nat} (h : k < 100) : SOk 4 (powS k) := by
  unfold powS
  split
  · exact ⟨by decide +kernel, Nat.zero_le _⟩
  · split
    · exact (sok_of "x").mono (by decide)
    · exact ((sok_of "x^").mono (show _ ≤ 2 by decide)).app (toS_sok (k := 2) (by decide) h)
def termS (q : Rat) (k : Nat) : Str := if k = 0 then numS (absR q) else if absR q = 1 then powS k else numS (absR q) ++ Str.ofString " " ++ powS k
theorem termS_sok {q : Rat} {k : Nat} (z : Sz q) (h : k < 100) : SOk 90 (termS q k) := by
  have n := numS_sok absR_nn z.abs
  have p := powS_sok h
  unfold termS
  split
  · exact n.mono (by decide)
  · split
    · exact p.mono (by decide)
    · exact ((n.app sp_sok).app p).mono (by decide)
theorem app_pos {s t : Str} (h : 0 < s.length) : 0 < (s ++ t).length := by rw [Str.length_append]; omega
theorem numS_pos {q : Rat} (h : 0 ≤ q) : 0 < (numS q).length := by
  unfold numS
  rw [num_nat h]
  split
  · exact toS_pos _
  · exact app_pos (app_pos (toS_pos _))
theorem termS_pos {q : Rat} {k : Nat} : 0 < (termS q k).length := by
  have n := numS_pos (absR_nn (q := q))
  unfold termS
  split
  · exact n
  · split
    · unfold powS
      rename_i hk _
      rw [if_neg hk]
      split
      · decide +kernel
      · exact app_pos (by decide +kernel)
    · exact app_pos (app_pos n)
structure BX (FT : Nat → Option FD) : Prop where
  f3 : FT 3 = some fd_sign
  f105 : FT 105 = some fd_show_number
  f109 : FT 109 = some fd_power_shown
  f110 : FT 110 = some fd_term_shown
  f111 : FT 111 = some fd_show_curve
section
variable {FT : Nat → Option FD} (V : BX FT) {N : Nat}
include V
theorem w_num {q : Rat} (h : 0 ≤ q) (z : Sz q) : callF FT (N + 1) 105 [nv q] = .ok (.str (numS q), false) := by
  have e := num_nat h
  have i0 : evIx (nv q) (.int 0) = .ok (.int q.num) := rfl
  have i1 : evIx (nv q) (.int 1) = .ok (.int (q.den : Int)) := rfl
  have s1 := str_ev z.1
  have s2 := str_ev z.2
  have a1 := add_ev (toS_sok (k := 40) (by decide) z.1) sl_sok (by decide)
  have a2 := add_ev ((toS_sok (k := 40) (by decide) z.1).app sl_sok) (toS_sok (k := 40) (by decide) z.2) (by decide)
  rw [callF_s V.f105 rfl]
  unfold fd_show_number numS
  rw [e] at i0 ⊢
  by_cases hd : q.den = 1
  · rw [if_pos hd]
    have d1 : ((q.den : Int) = 1) = True := eq_true (by omega)
    clear z h e
    generalize nv q = Q at *
    generalize toS (q.num.natAbs : Int) = A at *
    generalize (q.num.natAbs : Int) = n at *
    generalize toS (q.den : Int) = B at *
    generalize (q.den : Int) = m at *
    walk_at "evh"
  · rw [if_neg hd]
    have d1 : ((q.den : Int) = 1) = False := eq_false (by omega)
    clear z h e
    generalize nv q = Q at *
    generalize toS (q.num.natAbs : Int) = A at *
    generalize (q.num.natAbs : Int) = n at *
    generalize toS (q.den : Int) = B at *
    generalize (q.den : Int) = m at *
    walk_at "evh"
theorem w_pow {k : Nat} (h : k < 100) : callF FT (N + 1) 109 [.int (k : Int)] = .ok (.str (powS k), false) := by
  have s1 := str_ev (n := k) (Nat.lt_trans h (by decide +kernel))
  have a1 := add_ev ((sok_of "x^").mono (show _ ≤ 2 by decide)) (toS_sok (k := 2) (n := k) (by decide) h) (by decide)
  rw [callF_s V.f109 rfl]
  have em := of_empty
  unfold fd_power_shown powS
  by_cases h0 : k = 0
  · subst h0
    rw [if_pos rfl, ← em]
    walk_at "ev"
  · rw [if_neg h0]
    have d0 : ((k : Int) = 0) = False := eq_false (by omega)
    by_cases h1 : k = 1
    · subst h1
      rw [if_pos rfl]
      walk_at "evh"
    · rw [if_neg h1]
      have d1 : ((k : Int) = 1) = False := eq_false (by omega)
      clear h em
      generalize toS (k : Int) = A at *
      generalize (k : Int) = m at *
      walk_at "evh"
theorem w_term {q : Rat} {k : Nat} (z : Sz q) (h : k < 100) : callF FT (N + 2) 110 [nv q, .int (k : Int)] = .ok (.str (termS q k), false) := by
  have i0 : evIx (nv q) (.int 0) = .ok (.int q.num) := rfl
  have i1 : evIx (nv q) (.int 1) = .ok (.int (q.den : Int)) := rfl
  have ab : evBf .abs [.int q.num] = .ok (.int (q.num.natAbs : Int)) := by
    show R.ok (Val.int (if q.num < 0 then -q.num else q.num)) = _
    congr 2
    split <;> omega
  have na := @nv_abs q
  have c1 : callF FT (N + 1) 105 [nv (absR q)] = _ := w_num V absR_nn z.abs
  have c2 : callF FT (N + 1) 109 [.int (k : Int)] = _ := w_pow V h
  have n := numS_sok absR_nn z.abs
  have p := powS_sok h
  have a1 := add_ev n sp_sok (by decide)
  have a2 := add_ev (n.app sp_sok) p (by decide)
  have on : Val.tup [.int 1, .int 1] = nv 1 := rfl
  have ce : evCmp .eq (nv (absR q)) (nv 1) = .ok (.bl (decide (absR q = 1))) := c_eqN
  rw [callF_s V.f110 rfl]
  unfold fd_term_shown termS
  clear n p z h
  generalize numS (absR q) = S1 at *
  generalize powS k = S2 at *
  by_cases h0 : k = 0
  · rw [if_pos h0]
    subst h0
    generalize absR q = aq at *
    generalize nv q = Q at *
    generalize (q.num.natAbs : Int) = nn at *
    generalize q.num = nu at *
    generalize (q.den : Int) = dd at *
    walk_at "evh"
  · rw [if_neg h0]
    have d0 : ((k : Int) = 0) = False := eq_false (by omega)
    by_cases h1 : absR q = 1
    · rw [if_pos h1]
      rw [decide_eq_true h1] at ce
      clear h1
      generalize absR q = aq at *
      generalize nv q = Q at *
      generalize (q.num.natAbs : Int) = nn at *
      generalize q.num = nu at *
      generalize (q.den : Int) = dd at *
      generalize (k : Int) = kk at *
      walk_at "evh"
    · rw [if_neg h1]
      rw [decide_eq_false h1] at ce
      clear h1
      generalize absR q = aq at *
      generalize nv q = Q at *
      generalize (q.num.natAbs : Int) = nn at *
      generalize q.num = nu at *
      generalize (q.den : Int) = dd at *
      generalize (k : Int) = kk at *
      walk_at "evh"
end
end Tx
end
section
set_option linter.all false
set_option maxHeartbeats 1000000
set_option maxRecDepth 10000
open PySem
section
variable {l m : List Rat} {a b B : Nat}
end
end
section
set_option linter.all false
set_option maxHeartbeats 1000000
set_option maxRecDepth 10000
open PySem
def fd_moved : FD := ⟨2, 4, [.set 2 (.tup []), .for (.one 3) (.rvd (.nm 0)) [.set 2 (.call 13 [(.call 15 [(.nm 2), (.tup [(.tup [(.neg (.ix (.bor 1) (.cst (.int 0)))), (.ix (.bor 1) (.cst (.int 1)))]), (.cst (.tup [(.int 1), (.int 1)]))])]), (.call 8 [(.lst [(.nm 3)])])])], .ret (.nm 2)]⟩
def fd_stretched : FD := ⟨2, 5, [.ifs (.cmp .eq (.ix (.bor 1) (.cst (.int 0))) (.cst (.int 0))) [.rse 1] [], .set 2 (.lst []), .set 3 (.cst (.tup [(.int 1), (.int 1)])), .for (.one 4) (.val (.nm 0)) [.app 2 (.call 7 [(.nm 4), (.nm 3)]), .set 3 (.call 6 [(.nm 3), (.nm 1)])], .ret (.blt .tuple [(.bor 2)])]⟩
section
variable {FT : Nat → Option FD}
section
variable (h0 : FT 0 = some fd_divisor_of) (h1 : FT 1 = some fd_number) (h4 : FT 4 = some fd_plus) (h6 : FT 6 = some fd_times) (h8 : FT 8 = some fd_without_noughts) (h11 : FT 11 = some fd_at_power) (h13 : FT 13 = some fd_added) (h15 : FT 15 = some fd_product)
include h0 h1 h4 h6 h8 h11 h13 h15
end
end
end
section
set_option linter.all false
set_option maxHeartbeats 1000000
set_option maxRecDepth 10000
open PySem
theorem Bd.ld {n : Nat} {l : List Rat} (h : BL (n + 1) l) : Bd (n + 1) (ld l) := h.co _
section
variable {FT : Nat → Option FD} (h0 : FT 0 = some fd_divisor_of) (h1 : FT 1 = some fd_number) (h4 : FT 4 = some fd_plus) (h6 : FT 6 = some fd_times) (h7 : FT 7 = some fd_over) (h8 : FT 8 = some fd_without_noughts) (h11 : FT 11 = some fd_at_power) (h12 : FT 12 = some fd_scaled) (h13 : FT 13 = some fd_added) (h14 : FT 14 = some fd_taken)
include h0 h1 h4 h6 h7 h8 h11 h12 h13 h14
end
end
section
set_option linter.all false
set_option maxHeartbeats 1000000
set_option maxRecDepth 10000
open PySem
def fd_choose : FD := ⟨2, 4, [.set 2 (.cst (.int 1)), .for (.one 3) (.rng1 (.bor 1)) [.set 2 (.bin .fdiv (.bin .mul (.bor 2) (.bin .sub (.bor 0) (.bor 3))) (.bin .add (.bor 3) (.cst (.int 1))))], .ret (.nm 2)]⟩
def fd_of_whole : FD := ⟨1, 1, [.ret (.call 1 [(.nm 0), (.cst (.int 1))])]⟩
section
variable {FT : Nat → Option FD}
theorem ch_bd {n k : Nat} (h : n ≤ 12) : ch n k < 2 ^ 13 := Nat.lt_of_le_of_lt (ch_le n k) (Nat.pow_lt_pow_right (by decide) (by omega))
section
variable (h0 : FT 0 = some fd_divisor_of) (h1 : FT 1 = some fd_number)
include h0 h1
end
section
variable (h0 : FT 0 = some fd_divisor_of) (h1 : FT 1 = some fd_number) (h4 : FT 4 = some fd_plus) (h5 : FT 5 = some fd_minus) (h6 : FT 6 = some fd_times) (h7 : FT 7 = some fd_over) (h8 : FT 8 = some fd_without_noughts) (h11 : FT 11 = some fd_at_power) (h13 : FT 13 = some fd_added) (h15 : FT 15 = some fd_product) (h18 : FT 18 = some fd_moved) (h19 : FT 19 = some fd_stretched) (h27 : FT 27 = some fd_of_whole)
include h0 h1 h4 h5 h6 h7 h8 h11 h13 h15 h18 h19 h27
end
end
end
section
set_option linter.all false
set_option maxHeartbeats 1000000
set_option maxRecDepth 10000
open PySem
def fd_law_low3 : FD := ⟨2, 5, [.set 2 (.blt .abs [(.bor 0)]), .set 3 (.nm 1), .whl (.cmp .gt (.bor 3) (.cst (.int 0))) [.set 4 (.bin .mod (.bor 2) (.bor 3)), .set 2 (.nm 3), .set 3 (.nm 4)], .ret (.tup [(.bin .fdiv (.bor 0) (.bor 2)), (.bin .fdiv (.bor 1) (.bor 2))])]⟩
section
variable {FT : Nat → Option FD}
section
variable (f128 : FT 128 = some fd_law_low3)
include f128
end
end
end
section
set_option linter.all false
set_option maxHeartbeats 1000000
set_option maxRecDepth 10000
open PySem
section
variable {FT : Nat → Option FD}
variable (f128 : FT 128 = some fd_law_low3)
include f128
omit f128 in
theorem bd_nat {w m : Nat} (h : w < 2 ^ m) (hm : 1 ≤ m) : Bd m ((w : Nat) : Rat) := by
  refine ⟨by rw [Rat.num_natCast, Int.natAbs_natCast]; exact h, by rw [Rat.den_natCast]; exact Nat.one_lt_two_pow (by omega)⟩
end
end
section
set_option linter.all false
set_option maxHeartbeats 1000000
set_option maxRecDepth 10000
open PySem
end
section
set_option linter.all false
set_option maxHeartbeats 1000000
set_option maxRecDepth 10000
open PySem
def fd_between : FD := ⟨3, 3, [.ret (.call 4 [(.nm 0), (.call 6 [(.nm 2), (.call 5 [(.nm 1), (.nm 0)])])])]⟩
theorem Bd.pow {s : Nat} {t : Rat} (h : Bd s t) : ∀ k : Nat, Bd (k * s + 1) (t ^ k)
  | 0 => by rw [Rat.pow_zero, Nat.zero_mul]; exact ⟨by decide, by decide⟩
  | k + 1 => by
    rw [Rat.pow_succ, Nat.succ_mul]
    exact ((Bd.pow h k).mul h).mono (by omega)
def bnB (B s : Nat) : Nat := 1 + 13 * (B + 12 * (s + 2) + 17)
theorem Bd.bn {n B s : Nat} {t : Rat} {b : Nat → Rat} (hn : n ≤ 12) (bt : Bd s t) (bb : ∀ k ≤ n, Bd (B + 1) (b k)) : Bd (bnB B s) (bn t n b) := by
  have b1 : Bd 1 (1 : Rat) := ⟨by decide, by decide⟩
  have hterm : ∀ k ≤ n, Bd (B + 12 * (s + 2) + 16) ((ch n k : Rat) * b k * t ^ k * (1 - t) ^ (n - k)) := fun k hk => by
    have bc : Bd 13 ((ch n k : Nat) : Rat) := bd_nat (ch_bd hn) (by decide)
    have h1 := ((bc.mul (bb k hk)).mul (bt.pow k)).mul ((b1.sub bt).pow (n - k))
    refine h1.mono ?_
    have e1 : k * s ≤ k * (s + 2) := Nat.mul_le_mul_left _ (by omega)
    have e2 : k * (s + 2) + (n - k) * (s + 2) ≤ 12 * (s + 2) := by rw [← Nat.add_mul]; exact Nat.mul_le_mul_right _ (by omega)
    have e3 : (n - k) * (1 + s + 1) = (n - k) * (s + 2) := by rw [show 1 + s + 1 = s + 2 by omega]
    rw [e3]; omega
  have hsum : ∀ m, m ≤ n + 1 → Bd (1 + m * (B + 12 * (s + 2) + 17)) (sm (fun k => (ch n k : Rat) * b k * t ^ k * (1 - t) ^ (n - k)) m) := by
    intro m
    induction m with
    | zero => intro _; rw [Nat.zero_mul]; exact (⟨by decide, by decide⟩ : Bd (1 + 0) (0 : Rat))
    | succ m ih =>
      intro hm
      rw [sm_succ, Nat.succ_mul]
      exact ((ih (by omega)).add (hterm m (by omega))).mono (by omega)
  have h := hsum (n + 1) (Nat.le_refl _)
  rw [← bsum_bn]
  refine h.mono ?_
  unfold bnB
  have := Nat.mul_le_mul_right (B + 12 * (s + 2) + 17) (show n + 1 ≤ 13 by omega)
  omega
def row (t : Rat) (b : Nat → Rat) (n i : Nat) : List Rat := seg (fun j => bn t i fun m => b (m + j)) 0 (n + 1 - i)
theorem BL.seg {B : Nat} {f : Nat → Rat} {k d : Nat} (h : ∀ j < d, Bd B (f (k + j))) : BL B (seg f k d) := fun q hq => by
  obtain ⟨j, hj, rfl⟩ := List.mem_map.mp hq
  exact h j (List.mem_range.mp hj)
theorem BL.row {B s n i : Nat} {t : Rat} {b : Nat → Rat} (hn : n ≤ 12) (hi : i ≤ n) (bt : Bd s t) (bb : ∀ k ≤ n, Bd (B + 1) (b k)) : BL (bnB B s) (row t b n i) := .seg fun j hj => Bd.bn (by omega) bt fun k hk => bb _ (by omega)
section
variable {FT : Nat → Option FD}
variable (h0 : FT 0 = some fd_divisor_of) (h1 : FT 1 = some fd_number) (h4 : FT 4 = some fd_plus) (h5 : FT 5 = some fd_minus) (h6 : FT 6 = some fd_times) (h31 : FT 31 = some fd_between)
include h0 h1 h4 h5 h6 h31
end
end
section
set_option linter.all false
set_option maxHeartbeats 1000000
set_option maxRecDepth 10000
open PySem
theorem sgn : ∀ d : Nat, ((1 - 2 * (d : Int).fmod 2 : Int) : Rat) = (-1) ^ d
  | 0 => by rw [Rat.pow_zero]; rfl
  | 1 => by rw [Rat.pow_succ, Rat.pow_zero]; show ((-1 : Int) : Rat) = _; grind
  | d + 2 => by
    have h : ((d + 2 : Nat) : Int).fmod 2 = (d : Int).fmod 2 := by
      rw [Int.fmod_eq_emod_of_nonneg _ (by decide), Int.fmod_eq_emod_of_nonneg _ (by decide)]; omega
    rw [h, sgn d, Rat.pow_succ, Rat.pow_succ]; grind
def unS (b : Nat → Rat) (j i : Nat) : Rat := sm (fun i => ((ch j i : Rat) * (-1) ^ (j - i)) * b i) i
theorem unS_succ {b : Nat → Rat} {j i : Nat} : unS b j (i + 1) = unS b j i + ((ch j i : Rat) * (-1) ^ (j - i)) * b i := rfl
theorem unS_df {b : Nat → Rat} {j : Nat} : unS b j (j + 1) = df j b := df_sum.symm
theorem bd_int {z : Int} {m : Nat} (h : z.natAbs < 2 ^ m) (hm : 1 ≤ m) : Bd m (z : Rat) := ⟨by rw [Rat.num_intCast]; exact h, by rw [Rat.den_intCast]; exact Nat.one_lt_two_pow (by omega)⟩
theorem Bd.unS {B j : Nat} {b : Nat → Rat} (hj : j ≤ 12) (bb : ∀ k, Bd (B + 1) (b k)) : ∀ i, Bd (1 + i * (B + 16)) (unS b j i)
  | 0 => by rw [Nat.zero_mul]; exact (⟨by decide, by decide⟩ : Bd (1 + 0) (0 : Rat))
  | i + 1 => by
    rw [unS_succ, Nat.succ_mul]
    have h1 : Bd 13 ((ch j i : Rat) * (-1) ^ (j - i)) := by
      rw [← sgn, ← Rat.intCast_natCast, ← Rat.intCast_mul]
      have := ch_bd (n := j) (k := i) hj
      have h2 := fmod_bd ((j - i : Nat) : Int) (b := 2) (by decide)
      refine bd_int ?_ (by decide)
      rcases (show (1 - 2 * ((j - i : Nat) : Int).fmod 2 = 1) ∨ (1 - 2 * ((j - i : Nat) : Int).fmod 2 = -1) by omega) with e | e <;> rw [e] <;> omega
    exact ((Bd.unS hj bb i).add (h1.mul (bb i))).mono (by omega)
theorem Bd.pw {B n j : Nat} {b : Nat → Rat} (hn : n ≤ 12) (hj : j ≤ n) (bb : ∀ k, Bd (B + 1) (b k)) : Bd (13 * (B + 16) + 14) (pw n b j) := by
  unfold G.pw
  have h := Bd.unS (j := j) (b := b) (by omega) bb (j + 1)
  rw [unS_df] at h
  have h2 := (bd_nat (ch_bd (n := n) (k := j) hn) (by decide)).mul h
  refine h2.mono ?_
  have := Nat.mul_le_mul_right (B + 16) (show j + 1 ≤ 13 by omega)
  omega
section
variable {FT : Nat → Option FD}
variable (h0 : FT 0 = some fd_divisor_of) (h1 : FT 1 = some fd_number) (h4 : FT 4 = some fd_plus) (h5 : FT 5 = some fd_minus) (h6 : FT 6 = some fd_times) (h26 : FT 26 = some fd_choose) (h27 : FT 27 = some fd_of_whole)
include h0 h1 h4 h6 h26 h27
include h5
end
end
section
set_option linter.all false
set_option maxHeartbeats 1000000
set_option maxRecDepth 10000
open PySem
end
section
set_option linter.all false
set_option maxHeartbeats 1000000
set_option maxRecDepth 10000
open PySem
theorem and1 (x : Int) : Builtin.bitAnd x 1 = 0 ∨ Builtin.bitAnd x 1 = 1 := by
  unfold Builtin.bitAnd
  by_cases h : 0 ≤ x
  · rw [decide_eq_true h, decide_eq_true (show (0 : Int) ≤ 1 by decide)]
    dsimp only
    rw [show (1 : Int).toNat = 1 from rfl, Nat.and_one_is_mod]
    omega
  · rw [decide_eq_false h, decide_eq_true (show (0 : Int) ≤ 1 by decide)]
    dsimp only
    rw [show (1 : Int).toNat = 1 from rfl, Nat.and_comm, Nat.and_one_is_mod]
    omega
section
end
end
section
set_option linter.all false
set_option maxHeartbeats 2000000
set_option maxRecDepth 10000
open PySem
def d4b (ns : List Int) (k : Int) : Int := if 0 < ns.length then 104729 * k * k + 48271 + ((L2.atI ns (k.fmod ns.length)).getD 0).fmod (10 ^ 40) * (2 * k + 69621) else 104729 * k * k + 48271
def d4 (ns : List Int) (k s : Int) : Int := (((d4b ns k).fmod 2147483647).fdiv 3).fmod s
section
variable {FT : Nat → Option FD}
def pr (p : Rat × List Rat) : Val := .tup [nv p.1, cv p.2]
def pl (L : List (Rat × List Rat)) : Val := .lst (L.map pr)
variable (h0 : FT 0 = some fd_divisor_of) (h1 : FT 1 = some fd_number) (h4 : FT 4 = some fd_plus) (h6 : FT 6 = some fd_times) (h8 : FT 8 = some fd_without_noughts) (h9 : FT 9 = some fd_curve_of) (h11 : FT 11 = some fd_at_power) (h12 : FT 12 = some fd_scaled) (h13 : FT 13 = some fd_added) (h15 : FT 15 = some fd_product) (h16 : FT 16 = some fd_multiplied)
include h0 h1 h4 h6 h8 h9 h11 h12 h13 h15 h16
end
end
section
set_option linter.all false
set_option maxHeartbeats 2000000
set_option maxRecDepth 10000
open PySem
section
variable {FT : Nat → Option FD}
variable (h0 : FT 0 = some fd_divisor_of) (h1 : FT 1 = some fd_number)
include h0 h1
theorem Bd.absR {K : Nat} {q : Rat} (h : Bd K q) : Bd K (absR q) := by
  unfold G.absR
  split
  · rw [show (0 : Rat) - q = -q by grind]; exact h.neg
  · exact h
end
end
section
set_option linter.all false
set_option maxHeartbeats 2000000
set_option maxRecDepth 10000
open PySem
section
variable {FT : Nat → Option FD}
end
end
section
set_option linter.all false
set_option maxHeartbeats 2000000
set_option maxRecDepth 10000
open PySem
namespace Tx
def markS (T : List Str) (q : Rat) : Str := if T = [] then (if q < 0 then Str.ofString "-" else Str.empty) else (if q < 0 then Str.ofString " - " else Str.ofString " + ")
def termsT (l : List Rat) : Nat → List Str
  | 0 => []
  | k + 1 => if co l k = 0 then termsT l k else termsT l k ++ [markS (termsT l k) (co l k) ++ termS (co l k) k]
theorem mark_sok {T : List Str} {q : Rat} : SOk 3 (markS T q) := by
  unfold markS
  split
  · split
    · exact (sok_of "-").mono (by decide)
    · exact ⟨by decide +kernel, Nat.zero_le _⟩
  · split
    · exact (sok_of " - ").mono (by decide)
    · exact (sok_of " + ").mono (by decide)
theorem co_sz {l : List Rat} (h : ∀ q ∈ l, Sz q) (k : Nat) : Sz (co l k) := by
  by_cases hk : k < l.length
  · exact h _ (List.mem_iff_getElem?.mpr ⟨k, co_get hk⟩)
  · rw [co_out (by omega)]; exact ⟨by decide +kernel, by decide +kernel⟩
theorem app_len {s t : Str} (h : 0 < t.length) : 0 < (s ++ t).length := by rw [Str.length_append]; omega
theorem terms_ok {l : List Rat} (h : ∀ q ∈ l, Sz q) : ∀ k : Nat, k ≤ 14 → (∀ s ∈ termsT l k, SOk 93 s ∧ 0 < s.length) ∧ (termsT l k).length ≤ k ∧ SOk (93 * k) (cat (termsT l k)) ∧ (termsT l k = [] ↔ cat (termsT l k) = Str.empty)
  | 0, _ => ⟨(fun s hs => absurd hs (by simp [termsT])), Nat.le_refl _, ⟨(show PyData.strOk Str.empty = true by decide +kernel), Nat.le_refl _⟩, ⟨fun _ => rfl, fun _ => rfl⟩⟩
  | k + 1, hk => by
    obtain ⟨h1, h2, h3, h4⟩ := terms_ok h k (by omega)
    unfold termsT
    split
    · exact ⟨h1, by omega, h3.mono (by omega), h4⟩
    · have ts := termS_sok (co_sz h k) (show k < 100 by omega)
      have tm := (mark_sok (T := termsT l k) (q := co l k)).app ts
      have tp : 0 < (markS (termsT l k) (co l k) ++ termS (co l k) k).length := app_len termS_pos
      refine ⟨fun s hs => ?_, by rw [List.length_append]; show _ + 1 ≤ _; omega, ?_, ?_⟩
      · rcases List.mem_append.mp hs with hs | hs
        · exact h1 s hs
        · rw [List.mem_singleton.mp hs]; exact ⟨tm.mono (by decide), tp⟩
      · rw [cat_snoc]
        exact (h3.app tm).mono (by omega)
      · rw [cat_snoc]
        constructor
        · intro z; exact absurd z (by simp)
        · intro z
          have := congrArg Str.length z
          rw [Str.length_append, show Str.empty.length = 0 from rfl] at this
          omega
def shL : List S := [.set 3 (.cmp .lt (.call 3 [(.ix (.bor 0) (.bor 2))]) (.cst (.int 0))), .ifs (.and (.cmp .ne (.ix (.bor 0) (.bor 2)) (.cst (.tup [(.int 0), (.int 1)]))) (.cmp .eq (.bor 1) (.cst (.str "")))) [.set 1 (.bin .add (.ix (.lst [(.cst (.str "")), (.cst (.str "-"))]) (.blt .int [(.bor 3)])) (.call 110 [(.ix (.bor 0) (.bor 2)), (.nm 2)]))] [.ifs (.cmp .ne (.ix (.bor 0) (.bor 2)) (.cst (.tup [(.int 0), (.int 1)]))) [.set 1 (.bin .add (.bin .add (.bor 1) (.ix (.lst [(.cst (.str " + ")), (.cst (.str " - "))]) (.blt .int [(.bor 3)]))) (.call 110 [(.ix (.bor 0) (.bor 2)), (.nm 2)]))] []]]
def shE : List S := [.ifs (.cmp .eq (.bor 1) (.cst (.str ""))) [.ret (.cst (.str "0"))] [], .ret (.nm 1)]
theorem shfit : fd_show_curve.body = .set 1 (.cst (.str "")) :: .for (.one 2) (.rng1 (.blt .len [(.bor 0)])) shL :: shE := rfl
section
variable {FT : Nat → Option FD} (V : BX FT) {N : Nat}
include V
theorem w_sg {q : Rat} : ∃ s : Int, callF FT (N + 1) 3 [nv q] = .ok (.int s, false) ∧ ((s < 0) = (q < 0)) := by
  refine ⟨_, callF_sign V.f3, propext ?_⟩
  have n1 : q.num < 0 ↔ q < 0 := by
    constructor
    · intro h
      rcases Decidable.em (q < 0) with w | w
      · exact w
      · have := Rat.num_nonneg.mpr (Rat.not_lt.mp w); omega
    · intro h
      rcases Decidable.em (q.num < 0) with w | w
      · exact w
      · have := Rat.num_nonneg.mp (show 0 ≤ q.num by omega); grind
  rw [← n1]
  split <;> split <;> omega
theorem sh_step {l : List Rat} (h : ∀ q ∈ l, Sz q) {k : Nat} (hk : k < l.length) (h13 : l.length ≤ 14) {z3 : Option (Val × Bool)} : ∃ y3, evSs (callF FT (N + 2)) shL [some (cv l, false), some (.str (cat (termsT l k)), false), some (.int (k : Int), false), z3] = .nx [some (cv l, false), some (.str (cat (termsT l (k + 1))), false), some (.int (k : Int), false), y3] := by
  obtain ⟨h1, h2, h3, h4⟩ := terms_ok h k (by omega)
  obtain ⟨s, c3, hs⟩ := w_sg V (N := N + 1) (q := co l k)
  replace c3 : callF FT (N + 2) 3 [nv (co l k)] = _ := c3
  have ix : evIx (cv l) (.int (k : Int)) = .ok (nv (co l k)) := ix_cvN rfl (co_get hk)
  have ct : callF FT (N + 2) 110 [nv (co l k), .int (k : Int)] = _ := w_term V (co_sz h k) (show k < 100 by omega)
  have z0 : Val.tup [.int 0, .int 1] = nv 0 := rfl
  have ne : evCmp .ne (nv (co l k)) (nv 0) = .ok (.bl (!decide (co l k = 0))) := c_neN
  have ts := termS_sok (co_sz h k) (show k < 100 by omega)
  have qe : evCmp .eq (.str (cat (termsT l k))) (.str "") = .ok (.bl (decide (termsT l k = []))) := by
    rw [s_eq h3 ((sok_of "").mono (Nat.le_refl _)), of_empty]
    congr 2
    by_cases e : termsT l k = []
    · rw [decide_eq_true e, h4.mp e]; exact beq_self_eq_true _
    · rw [decide_eq_false e]
      exact beq_eq_false_iff_ne.mpr fun z => e (h4.mpr z)
  refine ⟨some (.bl (decide (s < 0)), false), ?_⟩
  unfold shL
  by_cases hz : co l k = 0
  · have et : termsT l (k + 1) = termsT l k := by rw [termsT]; exact if_pos hz
    rw [et]
    rw [decide_eq_true hz] at ne
    clear h h1 h2 h3 h4 ts et hz hs
    generalize cat (termsT l k) = A at *
    generalize co l k = q at *
    generalize cv l = C at *
    walk_at "evh"
  · have et : termsT l (k + 1) = termsT l k ++ [markS (termsT l k) (co l k) ++ termS (co l k) k] := by rw [termsT]; exact if_neg hz
    rw [et, cat_snoc]
    rw [decide_eq_false hz] at ne
    have mk := mark_sok (T := termsT l k) (q := co l k)
    by_cases e : termsT l k = []
    · rw [decide_eq_true e] at qe
      have ce : cat (termsT l k) = Str.empty := h4.mp e
      rw [ce, empty_app]
      rw [ce] at qe
      have a1 := add_ev mk ts (by decide)
      unfold markS at a1 ⊢
      rw [if_pos e] at a1 ⊢
      by_cases hn : co l k < 0
      · rw [if_pos hn] at a1 ⊢
        have s0 : (s < 0) = True := hs.trans (eq_true hn)
        have im : evIx (.lst [.str "", .str "-"]) (.int 1) = .ok (.str "-") := rfl
        clear h h1 h2 h3 h4 ts et hz hs mk hn e ce
        generalize termS (co l k) k = B at *
        generalize co l k = q at *
        generalize cv l = C at *
        walk_at "evh"
      · rw [if_neg hn] at a1 ⊢
        have s0 : (s < 0) = False := hs.trans (eq_false hn)
        rw [← of_empty] at a1 ⊢
        have im : evIx (.lst [.str "", .str "-"]) (.int 0) = .ok (.str "") := rfl
        clear h h1 h2 h3 h4 ts et hz hs mk hn e ce
        rw [← of_empty] at qe
        generalize termS (co l k) k = B at *
        generalize co l k = q at *
        generalize cv l = C at *
        walk_at "evh"
    · rw [decide_eq_false e] at qe
      have a1 := add_ev h3 mk (by omega)
      have a2 := add_ev (h3.app mk) ts (by omega)
      rw [← Str.append_assoc]
      unfold markS at a1 a2 ⊢
      rw [if_neg e] at a1 a2 ⊢
      by_cases hn : co l k < 0
      · rw [if_pos hn] at a1 a2 ⊢
        have s0 : (s < 0) = True := hs.trans (eq_true hn)
        have im : evIx (.lst [.str " + ", .str " - "]) (.int 1) = .ok (.str " - ") := rfl
        clear h h1 h2 h3 h4 ts et hz hs mk hn e
        generalize cat (termsT l k) = A at *
        generalize termS (co l k) k = B at *
        generalize co l k = q at *
        generalize cv l = C at *
        walk_at "evh"
      · rw [if_neg hn] at a1 a2 ⊢
        have s0 : (s < 0) = False := hs.trans (eq_false hn)
        have im : evIx (.lst [.str " + ", .str " - "]) (.int 0) = .ok (.str " + ") := rfl
        clear h h1 h2 h3 h4 ts et hz hs mk hn e
        generalize cat (termsT l k) = A at *
        generalize termS (co l k) k = B at *
        generalize co l k = q at *
        generalize cv l = C at *
        walk_at "evh"
theorem sh_loop {l : List Rat} (h : ∀ q ∈ l, Sz q) (h13 : l.length ≤ 14) : ∀ (d k : Nat) (z2 z3 : Option (Val × Bool)), k + d = l.length → ∃ y2 y3, forL (.one 2) (fun env' => evSs (callF FT (N + 2)) shL env') (rngV k d) [some (cv l, false), some (.str (cat (termsT l k)), false), z2, z3] = .nx [some (cv l, false), some (.str (cat (termsT l l.length)), false), y2, y3]
  | 0, k, z2, z3, e => ⟨z2, z3, by rw [show k = l.length by omega]; rfl⟩
  | d + 1, k, z2, z3, e => by
    obtain ⟨y3, e1⟩ := sh_step V (N := N) h (show k < l.length by omega) h13 (z3 := z3)
    obtain ⟨y2, y3', e2⟩ := sh_loop h h13 d (k + 1) (some (.int k, false)) y3 (by omega)
    refine ⟨y2, y3', ?_⟩
    rw [rngV_succ, show (k : Int) + 1 = ((k + 1 : Nat) : Int) by omega, ← e2]
    exact forL_cons (env1 := [some (cv l, false), some (.str (cat (termsT l k)), false), some (.int k, false), z3]) rfl e1
def showS (l : List Rat) : Str := if termsT l l.length = [] then Str.ofString "0" else cat (termsT l l.length)
theorem w_show {l : List Rat} (h : ∀ q ∈ l, Sz q) (h13 : l.length ≤ 14) : callF FT (N + 3) 111 [cv l] = .ok (.str (showS l), false) := by
  obtain ⟨y2, y3, eL⟩ := sh_loop V (N := N) h h13 l.length 0 none none (by omega)
  obtain ⟨h1, h2, h3, h4⟩ := terms_ok h l.length h13
  have qe : evCmp .eq (.str (cat (termsT l l.length))) (.str "") = .ok (.bl (decide (termsT l l.length = []))) := by
    rw [s_eq h3 ((sok_of "").mono (Nat.le_refl _)), of_empty]
    congr 2
    by_cases e : termsT l l.length = []
    · rw [decide_eq_true e, h4.mp e]; exact beq_self_eq_true _
    · rw [decide_eq_false e]
      exact beq_eq_false_iff_ne.mpr fun z => e (h4.mpr z)
  rw [callF_s V.f111 rfl, shfit, show startE fd_show_curve.nl [cv l] = [some (cv l, false), none, none, none] from rfl]
  have ll := @len_cv l
  have rk : rngOk (l.length : Int) = true := rng_ok (by omega)
  have et : (l.length : Int).toNat = l.length := Int.toNat_natCast _
  have eL : forL (.one 2) (fun env' => evSs (callF FT (N + 2)) shL env') (rngV 0 l.length) [some (cv l, false), some (.str Str.empty, false), none, none] = _ := eL
  rw [← of_empty] at eL
  unfold showS shE
  clear h h1 h2 h3 h4
  by_cases e : termsT l l.length = []
  · rw [if_pos e]
    rw [decide_eq_true e] at qe
    clear e
    generalize cat (termsT l l.length) = A at *
    generalize (l.length : Int) = n at *
    generalize l.length = n' at *
    generalize cv l = C at *
    walk_at "evh"
  · rw [if_neg e]
    rw [decide_eq_false e] at qe
    clear e
    generalize cat (termsT l l.length) = A at *
    generalize (l.length : Int) = n at *
    generalize l.length = n' at *
    generalize cv l = C at *
    walk_at "evh"
end
theorem showS_sok {l : List Rat} (h : ∀ q ∈ l, Sz q) (h13 : l.length ≤ 14) : SOk 2000 (showS l) := by
  obtain ⟨_, _, h3, _⟩ := terms_ok h l.length h13
  unfold showS
  split
  · exact (sok_of "0").mono (by decide)
  · exact h3.mono (by omega)
end Tx
end
section
set_option linter.all false
set_option maxHeartbeats 2000000
set_option maxRecDepth 10000
open PySem
namespace Tx
def Fig (c : Nat) : Prop := 48 ≤ c ∧ c ≤ 57
theorem tl_toS (n : Nat) : TL.tl (toS (n : Int)) = TL.numL n := TL.tl_num n
theorem numL_fig (n : Nat) : ∀ c ∈ TL.numL n, Fig c := fun c hc => by
  refine ⟨?_, ?_⟩
  · refine Classical.byContradiction fun h => TL.numL_free (n := n) (s := c) (.inl (by omega)) hc
  · refine Classical.byContradiction fun h => TL.numL_free (n := n) (s := c) (.inr (by omega)) hc
theorem tl_slash : TL.tl (Str.ofString "/") = [47] := by decide +kernel
theorem tl_sp : TL.tl (Str.ofString " ") = [32] := by decide +kernel
theorem tl_x : TL.tl (Str.ofString "x") = [120] := by decide +kernel
theorem tl_xh : TL.tl (Str.ofString "x^") = [120, 94] := by decide +kernel
theorem tl_pl : TL.tl (Str.ofString "+") = [43] := by decide +kernel
theorem tl_mi : TL.tl (Str.ofString "-") = [45] := by decide +kernel
theorem tl_spl : TL.tl (Str.ofString " + ") = [32, 43, 32] := by decide +kernel
theorem tl_smi : TL.tl (Str.ofString " - ") = [32, 45, 32] := by decide +kernel
theorem tl_0 : TL.tl (Str.ofString "0") = [48] := by decide +kernel
theorem tl_num {q : Rat} (h : 0 ≤ q) : TL.tl (numS q) = TL.numL q.num.natAbs ++ (if q.den = 1 then [] else 47 :: TL.numL q.den) := by
  unfold numS
  have e := num_nat h
  split
  · rw [e, tl_toS, List.append_nil, Int.natAbs_natCast]
  · rw [TL.tl_append, TL.tl_append, tl_slash, tl_toS, List.append_assoc]
    rw [e, tl_toS, Int.natAbs_natCast]
    rfl
def Wd (s : Str) : Prop := (∃ c r, TL.tl s = c :: r ∧ (Fig c ∨ c = 120)) ∧ ¬ 32 ∈ TL.tl s
theorem numS_head {q : Rat} (h : 0 ≤ q) : ∃ c r, TL.tl (numS q) = c :: r ∧ Fig c := by
  rw [tl_num h]
  cases e : TL.numL q.num.natAbs with
  | nil => exact absurd e (TL.numL_ne _)
  | cons c r => exact ⟨c, _, rfl, numL_fig _ c (by rw [e]; exact List.mem_cons_self)⟩
theorem numS_wd {q : Rat} (h : 0 ≤ q) : Wd (numS q) := by
  obtain ⟨c, r, e, f⟩ := numS_head h
  refine ⟨⟨c, r, e, .inl f⟩, ?_⟩
  rw [tl_num h]
  intro hm
  rcases List.mem_append.mp hm with hm | hm
  · have := numL_fig _ _ hm; unfold Fig at this; omega
  · split at hm
    · cases hm
    · rcases List.mem_cons.mp hm with hm | hm
      · omega
      · have := numL_fig _ _ hm; unfold Fig at this; omega
theorem powS_tl {k : Nat} (hk : k ≠ 0) : TL.tl (powS k) = 120 :: (if k = 1 then [] else 94 :: TL.numL k) := by
  unfold powS
  rw [if_neg hk]
  split
  · exact tl_x
  · rw [TL.tl_append, tl_xh, tl_toS]; rfl
theorem powS_wd {k : Nat} (hk : k ≠ 0) : Wd (powS k) := by
  rw [Wd, powS_tl hk]
  refine ⟨⟨120, _, rfl, .inr rfl⟩, ?_⟩
  intro hm
  rcases List.mem_cons.mp hm with hm | hm
  · omega
  · split at hm
    · cases hm
    · rcases List.mem_cons.mp hm with hm | hm
      · omega
      · have := numL_fig _ _ hm; unfold Fig at this; omega
theorem Wd.pl {s : Str} (h : Wd s) : s ≠ Str.ofString "+" := fun e => by
  obtain ⟨⟨c, r, e1, h1⟩, _⟩ := h
  rw [e, tl_pl] at e1
  cases e1
  unfold Fig at h1; omega
theorem Wd.mi {s : Str} (h : Wd s) : s ≠ Str.ofString "-" := fun e => by
  obtain ⟨⟨c, r, e1, h1⟩, _⟩ := h
  rw [e, tl_mi] at e1
  cases e1
  unfold Fig at h1; omega
def termW (q : Rat) (k : Nat) : List Str := if k = 0 then [numS (absR q)] else if absR q = 1 then [powS k] else [numS (absR q), powS k]
theorem termW_ne {q : Rat} {k : Nat} : termW q k ≠ [] := by unfold termW; split; · simp
                                                            · split <;> simp
theorem termW_wd {q : Rat} {k : Nat} : ∀ w ∈ termW q k, Wd w := fun w hw => by
  have hn := numS_wd (absR_nn (q := q))
  unfold termW at hw
  split at hw
  · rw [List.mem_singleton.mp hw]; exact hn
  · rename_i h0
    split at hw
    · rw [List.mem_singleton.mp hw]; exact powS_wd h0
    · rcases List.mem_cons.mp hw with rfl | hw
      · exact hn
      · rw [List.mem_singleton.mp hw]; exact powS_wd h0
theorem termW_len {q : Rat} {k : Nat} : (termW q k).length ≤ 2 := by unfold termW; split; · simp
                                                                     · split <;> simp
def jn (W : List Str) : List Nat := TL.joinL [32] (W.map TL.tl)
theorem jn_one {a : Str} : jn [a] = TL.tl a := rfl
theorem jn_two {a b : Str} {W : List Str} : jn (a :: b :: W) = TL.tl a ++ (32 :: jn (b :: W)) := rfl
theorem jn_app : ∀ {A B : List Str}, A ≠ [] → B ≠ [] → jn (A ++ B) = jn A ++ 32 :: jn B
  | [], _, h, _ => absurd rfl h
  | [a], [], _, h => absurd rfl h
  | [a], b :: B, _, _ => rfl
  | a :: a' :: A, B, _, hB => by
    have ih := jn_app (A := a' :: A) (by simp) hB
    show TL.tl a ++ (32 :: jn (a' :: A ++ B)) = TL.tl a ++ (32 :: jn (a' :: A)) ++ 32 :: jn B
    rw [ih]; simp
theorem jn_term {q : Rat} {k : Nat} : TL.tl (termS q k) = jn (termW q k) := by
  unfold termS termW
  split
  · rfl
  · split
    · rfl
    · rw [TL.tl_append, TL.tl_append, tl_sp, jn_two, jn_one]; simp
abbrev Gp := Bool × List Str
def grp (l : List Rat) : Nat → List Gp
  | 0 => []
  | k + 1 => if co l k = 0 then grp l k else grp l k ++ [(decide (co l k < 0), termW (co l k) k)]
def sgS (b : Bool) : Str := if b then Str.ofString "-" else Str.ofString "+"
def tailW : List Gp → List Str
  | [] => []
  | (b, ws) :: r => sgS b :: (ws ++ tailW r)
def wds : List Gp → List Str
  | [] => []
  | (_, ws) :: r => ws ++ tailW r
theorem tailW_app : ∀ {g h : List Gp}, tailW (g ++ h) = tailW g ++ tailW h
  | [], h => rfl
  | (b, ws) :: r, h => by
    show sgS b :: (ws ++ tailW (r ++ h)) = sgS b :: (ws ++ tailW r) ++ tailW h
    rw [tailW_app (g := r)]; simp
theorem wds_snoc {g : List Gp} {b : Bool} {ws : List Str} (hg : g ≠ []) : wds (g ++ [(b, ws)]) = wds g ++ (sgS b :: ws) := by
  cases g with
  | nil => exact absurd rfl hg
  | cons p r =>
    obtain ⟨b', ws'⟩ := p
    show ws' ++ tailW (r ++ [(b, ws)]) = ws' ++ tailW r ++ (sgS b :: ws)
    rw [tailW_app]
    show ws' ++ (tailW r ++ (sgS b :: (ws ++ []))) = _
    simp
def hdB : List Gp → Bool
  | [] => false
  | (b, _) :: _ => b
theorem hdB_snoc {g : List Gp} {p : Gp} (hg : g ≠ []) : hdB (g ++ [p]) = hdB g := by
  cases g with
  | nil => exact absurd rfl hg
  | cons p r => rfl
theorem grp_nil {l : List Rat} : ∀ k, (grp l k = [] ↔ termsT l k = [])
  | 0 => ⟨fun _ => rfl, fun _ => rfl⟩
  | k + 1 => by
    unfold grp termsT
    split
    · exact grp_nil k
    · simp
theorem grp_wds {l : List Rat} : ∀ k, grp l k ≠ [] → wds (grp l k) ≠ []
  | 0, h => absurd rfl h
  | k + 1, h => by
    unfold grp at h ⊢
    split at h
    · rename_i hz; rw [if_pos hz]; exact grp_wds k h
    · rename_i hz
      rw [if_neg hz]
      by_cases e : grp l k = []
      · rw [e]
        show termW _ _ ++ [] ≠ []
        rw [List.append_nil]; exact termW_ne
      · rw [wds_snoc e]; simp
theorem cat_jn {l : List Rat} : ∀ k, grp l k ≠ [] → TL.tl (cat (termsT l k)) = (if hdB (grp l k) then [45] else []) ++ jn (wds (grp l k))
  | 0, h => absurd rfl h
  | k + 1, h => by
    unfold grp at h ⊢
    unfold termsT
    split at h
    · rename_i hz; rw [if_pos hz, if_pos hz]; exact cat_jn k h
    · rename_i hz
      rw [if_neg hz, if_neg hz, cat_snoc, TL.tl_append, TL.tl_append, jn_term]
      by_cases e : grp l k = []
      · have e2 := (grp_nil k).mp e
        rw [e, e2]
        unfold markS
        rw [if_pos rfl]
        show [] ++ (TL.tl (if co l k < 0 then Str.ofString "-" else Str.empty) ++ jn (termW (co l k) k)) = (if decide (co l k < 0) = true then [45] else []) ++ jn (termW (co l k) k ++ [])
        rw [List.append_nil]
        by_cases hn : co l k < 0
        · rw [if_pos hn, if_pos (decide_eq_true hn), tl_mi]; rfl
        · rw [if_neg hn, if_neg (by simpa using hn)]; rfl
      · have e2 : termsT l k ≠ [] := fun z => e ((grp_nil k).mpr z)
        rw [cat_jn k e, hdB_snoc e, wds_snoc e, jn_app (grp_wds k e) (by simp)]
        unfold markS
        rw [if_neg e2]
        have h1 : jn (sgS (decide (co l k < 0)) :: termW (co l k) k) = TL.tl (sgS (decide (co l k < 0))) ++ 32 :: jn (termW (co l k) k) := by
          have := jn_app (A := [sgS (decide (co l k < 0))]) (B := termW (co l k) k) (by simp) termW_ne
          exact this
        rw [h1]
        generalize (if hdB (grp l k) = true then [45] else []) = A0
        by_cases hn : co l k < 0
        · rw [if_pos hn, decide_eq_true hn, tl_smi, show TL.tl (sgS true) = [45] from tl_mi]; simp
        · rw [if_neg hn, decide_eq_false hn, tl_spl, show TL.tl (sgS false) = [43] from tl_pl]; simp
theorem grp_wd {l : List Rat} : ∀ k, ∀ p ∈ grp l k, (∀ w ∈ p.2, Wd w) ∧ p.2 ≠ [] ∧ p.2.length ≤ 2
  | 0, p, h => by cases h
  | k + 1, p, h => by
    unfold grp at h
    split at h
    · exact grp_wd k p h
    · rcases List.mem_append.mp h with h | h
      · exact grp_wd k p h
      · rw [List.mem_singleton.mp h]; exact ⟨termW_wd, termW_ne, termW_len⟩
theorem grp_len {l : List Rat} : ∀ k, (grp l k).length ≤ k
  | 0 => Nat.le_refl _
  | k + 1 => by
    unfold grp
    split
    · exact Nat.le_succ_of_le (grp_len k)
    · rw [List.length_append]; show _ + 1 ≤ _; have := grp_len (l := l) k; omega
theorem sgS_free (b : Bool) : ¬ 32 ∈ TL.tl (sgS b) := by cases b <;> decide +kernel
theorem wds_free : ∀ {g : List Gp}, (∀ p ∈ g, ∀ w ∈ p.2, Wd w) → ∀ w ∈ wds g, ¬ 32 ∈ TL.tl w := fun {g} h w hw => by
  have tl : ∀ {g : List Gp}, (∀ p ∈ g, ∀ w ∈ p.2, Wd w) → ∀ w ∈ tailW g, ¬ 32 ∈ TL.tl w := fun {g} => by
    induction g with
    | nil => intro _ w hw; cases hw
    | cons p r ih =>
      obtain ⟨b, ws⟩ := p
      intro h w hw
      rcases List.mem_cons.mp hw with rfl | hw
      · exact sgS_free b
      · rcases List.mem_append.mp hw with hw | hw
        · exact (h _ List.mem_cons_self w hw).2
        · exact ih (fun p hp => h p (List.mem_cons_of_mem _ hp)) w hw
  cases g with
  | nil => cases hw
  | cons p r =>
    obtain ⟨b, ws⟩ := p
    rcases List.mem_append.mp hw with hw | hw
    · exact (h _ List.mem_cons_self w hw).2
    · exact tl (fun p hp => h p (List.mem_cons_of_mem _ hp)) w hw
theorem split_wds {g : List Gp} {s : Str} (h : ∀ p ∈ g, ∀ w ∈ p.2, Wd w) (hw : wds g ≠ []) (e : TL.tl s = jn (wds g)) : Txt.split s (Str.ofString " ") = wds g := by
  have e2 : s = Txt.join (Str.ofString " ") (wds g) := TL.ext_tl (by
    rw [TL.join_eq, TL.tl_join, tl_sp]; exact e)
  rw [e2]
  exact TL.split_join tl_sp (by decide +kernel) hw (wds_free h)
end Tx
end
section
set_option linter.all false
set_option maxHeartbeats 2000000
set_option maxRecDepth 10000
open PySem
def fd_whole_read : FD := ⟨1, 2, [.ifs (.or (.cmp .eq (.blt .len [(.bor 0)]) (.cst (.int 0))) (.or (.cmp .gt (.blt .len [(.bor 0)]) (.cst (.int 12))) (.and (.cmp .eq (.ix (.bor 0) (.cst (.int 0))) (.cst (.str "0"))) (.cmp .gt (.blt .len [(.bor 0)]) (.cst (.int 1)))))) [.rse 7] [], .for (.one 1) (.val (.nm 0)) [.ifs (.inn true (.bor 1) (.cst (.str "0123456789"))) [.rse 7] []], .ret (.blt .int [(.bor 0)])]⟩
def fd_size_read : FD := ⟨1, 6, [.unp [1, 2, 3] (.pt (.bor 0) "/"), .set 4 (.call 106 [(.nm 1)]), .ifs (.cmp .eq (.bor 2) (.cst (.str ""))) [.ret (.tup [(.nm 4), (.cst (.int 1))])] [], .set 5 (.call 106 [(.nm 3)]), .ifs (.or (.cmp .lt (.bor 5) (.cst (.int 2))) (.cmp .gt (.call 0 [(.nm 4), (.nm 5)]) (.cst (.int 1)))) [.rse 7] [], .ret (.tup [(.nm 4), (.nm 5)])]⟩
def fd_power_read : FD := ⟨1, 2, [.ifs (.cmp .eq (.bor 0) (.cst (.str "x"))) [.ret (.cst (.int 1))] [], .ifs (.cmp .ne (.slc (.bor 0) none (some (.cst (.int 2)))) (.cst (.str "x^"))) [.rse 7] [], .set 1 (.call 106 [(.slc (.bor 0) (some (.cst (.int 2))) none)]), .ifs (.or (.cmp .lt (.bor 1) (.cst (.int 2))) (.cmp .gt (.bor 1) (.cst (.int 12)))) [.rse 7] [], .ret (.nm 1)]⟩
def fd_term_read : FD := ⟨1, 1, [.ifs (.and (.cmp .eq (.blt .len [(.bor 0)]) (.cst (.int 1))) (.cmp .eq (.slc (.ix (.bor 0) (.cst (.int 0))) none (some (.cst (.int 1)))) (.cst (.str "x")))) [.ret (.tup [(.tup [(.cst (.int 1)), (.cst (.int 1))]), (.call 112 [(.ix (.bor 0) (.cst (.int 0)))])])] [], .ifs (.cmp .eq (.blt .len [(.bor 0)]) (.cst (.int 1))) [.ret (.tup [(.call 107 [(.ix (.bor 0) (.cst (.int 0)))]), (.cst (.int 0))])] [], .ifs (.cmp .eq (.blt .len [(.bor 0)]) (.cst (.int 2))) [.ret (.tup [(.call 107 [(.ix (.bor 0) (.cst (.int 0)))]), (.call 112 [(.ix (.bor 0) (.cst (.int 1)))])])] [], .rse 7]⟩
namespace Tx
theorem tl_cutL {z : Str} {j : Nat} : TL.tl (L2.cutS z none (some (j : Int))) = (TL.tl z).take j := by
  have hn : ¬ ((j : Int) < 0) := by omega
  have e : TL.tl (L2.cutS z none (some (j : Int))) = List.take ((if (j : Int) < 0 then ((j : Int) + z.length).toNat else min (j : Int).toNat z.length) - 0) (List.drop 0 (TL.tl z)) := by
    show TL.tl ⟨(List.take _ _).toArray⟩ = _
    rw [TL.tl_mk]; rfl
  rw [e, if_neg hn, Int.toNat_natCast, Nat.sub_zero, List.drop_zero, TL.len_tl]
  by_cases h : j ≤ (TL.tl z).length
  · rw [Nat.min_eq_left h]
  · rw [Nat.min_eq_right (by omega), List.take_length, List.take_of_length_le (by omega)]
theorem tl_cutR {z : Str} {j : Nat} : TL.tl (L2.cutS z (some (j : Int)) none) = (TL.tl z).drop j := by
  have hn : ¬ ((j : Int) < 0) := by omega
  have e : TL.tl (L2.cutS z (some (j : Int)) none) = List.take (z.length - (if (j : Int) < 0 then ((j : Int) + z.length).toNat else min (j : Int).toNat z.length)) (List.drop (if (j : Int) < 0 then ((j : Int) + z.length).toNat else min (j : Int).toNat z.length) (TL.tl z)) := by
    show TL.tl ⟨(List.take _ _).toArray⟩ = _
    rw [TL.tl_mk]; rfl
  rw [e, if_neg hn, Int.toNat_natCast, TL.len_tl]
  by_cases h : j ≤ (TL.tl z).length
  · rw [Nat.min_eq_left h, List.take_of_length_le (by rw [List.length_drop]; omega)]
  · rw [Nat.min_eq_right (by omega), List.drop_of_length_le (by omega), List.drop_of_length_le (by omega)]; simp
theorem str_ext {s t : Str} (h : TL.tl s = TL.tl t) : s = t := TL.ext_tl h
theorem beq_tl {s t : Str} : (s == t) = decide (TL.tl s = TL.tl t) := by
  by_cases e : TL.tl s = TL.tl t
  · rw [decide_eq_true e, str_ext e]; exact beq_self_eq_true _
  · rw [decide_eq_false e]; exact beq_eq_false_iff_ne.mpr fun z => e (by rw [z])
theorem sok_tl {n : Nat} {s : Str} (h : ∀ c ∈ TL.tl s, c < 1114112) (l : (TL.tl s).length ≤ n) : SOk n s := ⟨strOk_iff.mpr h, by rw [TL.len_tl]; exact l⟩
theorem SOk.tl {n : Nat} {s : Str} (h : SOk n s) : ∀ c ∈ TL.tl s, c < 1114112 := strOk_iff.mp h.c
theorem SOk.cut {n : Nat} {s t : Str} (h : SOk n s) (e : ∀ c ∈ TL.tl t, c ∈ TL.tl s) (l : (TL.tl t).length ≤ n) : SOk n t := sok_tl (fun c hc => h.tl c (e c hc)) l
theorem slcL {n : Nat} {s : Str} (h : SOk n s) (hn : n ≤ 1000000) (j : Nat) : evSlc none (some (j : Int)) (.str s) = .ok (.str (L2.cutS s none (some (j : Int)))) := by
  show (if lenOk s.length then _ else _) = _
  rw [if_pos (lenOk_lit (Nat.le_trans h.l hn))]
theorem slcR {n : Nat} {s : Str} (h : SOk n s) (hn : n ≤ 1000000) (j : Nat) : evSlc (some (j : Int)) none (.str s) = .ok (.str (L2.cutS s (some (j : Int)) none)) := by
  show (if lenOk s.length then _ else _) = _
  rw [if_pos (lenOk_lit (Nat.le_trans h.l hn))]
theorem numL_head : ∀ (n : Nat), 1 ≤ n → ∃ c r, TL.numL n = c :: r ∧ c ≠ 48 := fun n => by
  induction n using Nat.strongRecOn with
  | ind n ih =>
    intro h
    by_cases h10 : n < 10
    · exact ⟨48 + n, [], TL.numL_lt h10, by omega⟩
    · obtain ⟨c, r, e, hc⟩ := ih (n / 10) (by omega) (by omega)
      exact ⟨c, r ++ [48 + n % 10], by rw [TL.numL_step (by omega), e]; rfl, hc⟩
theorem toS_sok12 {n : Nat} (h : n < 10 ^ 12) : SOk 12 (toS (n : Int)) := toS_sok (k := 12) (by decide) h
theorem int_ev {n : Nat} (h : n < 10 ^ 12) : evBf .int [.str (toS (n : Int))] = .ok (.int (n : Int)) := by
  have l : (TL.numL n).length ≤ 12 := TL.numL_len (by decide) h
  have e := TL.int_num (n := n) (by omega)
  show (match PySem.intText? (toS (n : Int)) with
    | some n' => if decide ((toS (n : Int)).length ≤ 640) = true then G.R.ok (Val.int n') else .bad
    | none => .bad) = _
  have e2 : PySem.intText? (toS (n : Int)) = some (n : Int) := e
  rw [e2]
  dsimp only
  rw [if_pos (decide_eq_true (Nat.le_trans (toS_sok12 h).l (by decide)))]
theorem fig_in {c : Nat} (h : Fig c) : evIn true (.str ⟨#[c]⟩) (.str "0123456789") = .ok (.bl false) := by
  have e : decide (c ∈ TL.tl (Str.ofString "0123456789")) = true := by
    obtain ⟨h1, h2⟩ := h
    rcases show c = 48 ∨ c = 49 ∨ c = 50 ∨ c = 51 ∨ c = 52 ∨ c = 53 ∨ c = 54 ∨ c = 55 ∨ c = 56 ∨ c = 57 by omega with rfl | rfl | rfl | rfl | rfl | rfl | rfl | rfl | rfl | rfl <;> decide +kernel
  show G.R.ok (Val.bl (!decide (c ∈ TL.tl (Str.ofString "0123456789")))) = _
  rw [e]; rfl
def wrL : List S := [.ifs (.inn true (.bor 1) (.cst (.str "0123456789"))) [.rse 7] []]
theorem wr_loop {cl : Nat → List Val → G.R (Val × Bool)} {X : Option (Val × Bool)} : ∀ (L : List Nat) (z : Option (Val × Bool)), (∀ c ∈ L, Fig c) → ∃ y, forL (.one 1) (fun env' => evSs cl wrL env') (L.map fun c => Val.str ⟨#[c]⟩) [X, z] = .nx [X, y]
  | [], z, _ => ⟨z, rfl⟩
  | c :: L, z, h => by
    obtain ⟨y, e⟩ := wr_loop (cl := cl) (X := X) L (some (.str ⟨#[c]⟩, false)) fun c hc => h c (List.mem_cons_of_mem _ hc)
    refine ⟨y, ?_⟩
    rw [List.map_cons, ← e]
    refine forL_cons (env1 := [X, some (.str ⟨#[c]⟩, false)]) rfl ?_
    have fi := fig_in (h c List.mem_cons_self)
    unfold wrL
    clear e h
    walk_at "evh"
structure BR (FT : Nat → Option FD) : Prop where
  f0 : FT 0 = some fd_divisor_of
  f106 : FT 106 = some fd_whole_read
  f107 : FT 107 = some fd_size_read
  f112 : FT 112 = some fd_power_read
  f113 : FT 113 = some fd_term_read
section
variable {FT : Nat → Option FD} (V : BR FT) {N : Nat}
include V
theorem w_whole {n : Nat} (h : n < 10 ^ 12) : callF FT (N + 1) 106 [.str (toS (n : Int))] = .ok (.int (n : Int), false) := by
  have so := toS_sok12 h
  have tl := tl_toS n
  have ie := int_ev h
  obtain ⟨c, r, hc⟩ : ∃ c r, TL.numL n = c :: r := by
    cases e : TL.numL n with
    | nil => exact absurd e (TL.numL_ne _)
    | cons c r => exact ⟨c, r, rfl⟩
  have hl : (toS (n : Int)).length = r.length + 1 := by rw [TL.len_tl, tl, hc]; rfl
  have l12 : r.length + 1 ≤ 12 := by rw [← hl]; exact so.l
  have ln : evBf .len [.str (toS (n : Int))] = .ok (.int ((r.length + 1 : Nat) : Int)) := by
    show (if lenOk (toS (n : Int)).length = true then G.R.ok (Val.int ((toS (n : Int)).length : Int)) else .bad) = _
    rw [if_pos (lenOk_lit (by omega)), hl]
  have fc : Fig c := numL_fig n c (by rw [hc]; exact List.mem_cons_self)
  have ix : evIx (.str (toS (n : Int))) (.int 0) = .ok (.str ⟨#[c]⟩) := by
    show (if lenOk (toS (n : Int)).length = true then ofO ((L2.atI (TL.tl (toS (n : Int))) 0).map fun c => Val.str ⟨#[c]⟩) else .bad) = _
    rw [if_pos (lenOk_lit (by omega)), tl, hc]
    have : L2.atI (c :: r) 0 = some c := by
      unfold L2.atI
      simp [L2.ixN]
    rw [this]; rfl
  have sc : SOk 1 (⟨#[c]⟩ : Str) := sok_tl (fun d hd => by
    have : d = c := by simpa using hd
    obtain ⟨h1, h2⟩ := fc
    omega) (Nat.le_refl _)
  have ce : evCmp .eq (.str ⟨#[c]⟩) (.str "0") = .ok (.bl (decide (c = 48))) := by
    rw [s_eq sc ((sok_of "0").mono (show _ ≤ 1 by decide)), beq_tl, tl_0]
    congr 2
    exact decide_eq_decide.mpr ⟨fun e => by cases e; rfl, fun e => by subst e; rfl⟩
  have no : ¬ (c = 48 ∧ 1 < r.length + 1) := fun ⟨e, hr⟩ => by
    by_cases h1 : 1 ≤ n
    · obtain ⟨c', r', e1, e2⟩ := numL_head n h1
      rw [hc] at e1; cases e1
      exact e2 e
    · have : n = 0 := by omega
      subst this
      have e1 : TL.numL 0 = [48] := by decide +kernel
      rw [e1] at hc; cases hc
      simp at hr
  have it : itemsOf (.str (toS (n : Int))) = .ok ((c :: r).map fun c => Val.str ⟨#[c]⟩) := by
    rw [← hc, ← tl]; rfl
  obtain ⟨y, eL⟩ := wr_loop (cl := callF FT N) (X := some (.str (toS (n : Int)), false)) (c :: r) none fun d hd => numL_fig n d (by rw [hc]; exact hd)
  rw [callF_s V.f106 rfl, show fd_whole_read.body = [.ifs (.or (.cmp .eq (.blt .len [(.bor 0)]) (.cst (.int 0))) (.or (.cmp .gt (.blt .len [(.bor 0)]) (.cst (.int 12))) (.and (.cmp .eq (.ix (.bor 0) (.cst (.int 0))) (.cst (.str "0"))) (.cmp .gt (.blt .len [(.bor 0)]) (.cst (.int 1)))))) [.rse 7] [], .for (.one 1) (.val (.nm 0)) wrL, .ret (.blt .int [(.bor 0)])] from rfl, show startE fd_whole_read.nl [.str (toS (n : Int))] = [some (.str (toS (n : Int)), false), none] from rfl]
  have g0 : (((r.length + 1 : Nat) : Int) = 0) = False := eq_false (by omega)
  have g1 : (((r.length + 1 : Nat) : Int) > 12) = False := eq_false (by omega)
  have g1' : ((12 : Int) < ((r.length + 1 : Nat) : Int)) = False := eq_false (by omega)
  generalize (c :: r).map (fun c => Val.str ⟨#[c]⟩) = its at *
  by_cases h48 : c = 48
  · have g2 : (((r.length + 1 : Nat) : Int) > 1) = False := eq_false (fun z => no ⟨h48, by omega⟩)
    have g2' : ((1 : Int) < ((r.length + 1 : Nat) : Int)) = False := eq_false (fun z => no ⟨h48, by omega⟩)
    rw [decide_eq_true h48] at ce
    clear h so tl hc hl l12 fc sc no h48
    generalize toS (n : Int) = s at *
    generalize ((r.length + 1 : Nat) : Int) = m at *
    generalize (⟨#[c]⟩ : Str) = ch at *
    walk_at "evh"
  · rw [decide_eq_false h48] at ce
    clear h so tl hc hl l12 fc sc no h48
    generalize toS (n : Int) = s at *
    generalize ((r.length + 1 : Nat) : Int) = m at *
    generalize (⟨#[c]⟩ : Str) = ch at *
    walk_at "evh"
def S12 (q : Rat) : Prop := q.num.natAbs < 10 ^ 12 ∧ q.den < 10 ^ 12
omit V in
theorem S12.sz {q : Rat} (h : S12 q) : Sz q := ⟨Nat.lt_trans h.1 (by decide +kernel), Nat.lt_trans h.2 (by decide +kernel)⟩
omit V in
theorem S12.abs {q : Rat} (h : S12 q) : S12 (absR q) := ⟨by rw [absR_num.1]; exact h.1, by rw [absR_num.2]; exact h.2⟩
omit V in
theorem numS_sok12 {q : Rat} (h : 0 ≤ q) (z : S12 q) : SOk 81 (numS q) := numS_sok h z.sz
theorem w_sizeR {q : Rat} (h : 0 ≤ q) (z : S12 q) : callF FT (N + 2) 107 [.str (numS q)] = .ok (nv q, false) := by
  have e := num_nat h
  have nf : ∀ n : Nat, ¬ 47 ∈ TL.tl (toS (n : Int)) := fun n => by rw [tl_toS]; exact TL.numL_free (.inl (by decide))
  have c1 : callF FT (N + 1) 106 [.str (toS (q.num.natAbs : Int))] = _ := w_whole V z.1
  have c2 : callF FT (N + 1) 106 [.str (toS (q.den : Int))] = _ := w_whole V z.2
  have pt : evPt (Str.ofString "/") (.str (numS q)) = .ok (.tup [.str (toS (q.num.natAbs : Int)), .str (if q.den = 1 then Str.empty else Str.ofString "/"), .str (if q.den = 1 then Str.empty else toS (q.den : Int))]) := by
    show (if (!((Str.ofString "/").length == 0) && lenOk (numS q).length) = true then G.R.ok (Val.tup [.str (Txt.partition (numS q) (Str.ofString "/")).1, .str (Txt.partition (numS q) (Str.ofString "/")).2.1, .str (Txt.partition (numS q) (Str.ofString "/")).2.2]) else .bad) = _
    rw [lenOk_lit (Nat.le_trans (numS_sok12 h z).l (by decide)), show (Str.ofString "/").length = 1 by decide +kernel, if_pos (show (!((1 : Nat) == 0) && true) = true from rfl)]
    unfold numS
    by_cases hd : q.den = 1
    · rw [if_pos hd, if_pos hd, if_pos hd, e, TL.partition_none tl_slash (nf _)]
      rfl
    · rw [if_neg hd, if_neg hd, if_neg hd, e, TL.partition_app tl_slash (nf _)]
      rfl
  have dp := q.den_pos
  rw [callF_s V.f107 rfl]
  unfold fd_size_read
  by_cases hd : q.den = 1
  · rw [if_pos hd, if_pos hd] at pt
    have nq : Val.tup [.int (q.num.natAbs : Int), .int 1] = nv q := by
      show _ = Val.tup [.int q.num, .int (q.den : Int)]
      rw [← e, hd]; rfl
    have em : evCmp .eq (.str Str.empty) (.str Str.empty) = .ok (.bl true) := by
      have se : SOk 0 Str.empty := ⟨by decide +kernel, Nat.zero_le _⟩
      rw [s_eq se se]; rfl
    have emm := of_empty
    clear h z e nf c2 dp hd
    generalize numS q = s at *
    generalize toS (q.num.natAbs : Int) = a at *
    generalize (q.num.natAbs : Int) = n at *
    generalize nv q = Q at *
    walk_at "evh"
  · rw [if_neg hd, if_neg hd] at pt
    have nq : Val.tup [.int (q.num.natAbs : Int), .int (q.den : Int)] = nv q := by
      show _ = Val.tup [.int q.num, .int (q.den : Int)]
      rw [← e]
    have em : evCmp .eq (.str "/") (.str "") = .ok (.bl false) := by
      rw [s_eq (sok_of "/") (sok_of ""), show (Str.ofString "/" == Str.ofString "") = false by decide +kernel]
    have cg : callF FT (N + 1) 0 [.int (q.num.natAbs : Int), .int (q.den : Int)] = _ := callF_divisor V.f0 (n := N) (by omega) (by omega)
    have g1 : Int.gcd (q.num.natAbs : Int) (q.den : Int) = 1 := by
      have := q.reduced
      unfold Int.gcd
      rw [Int.natAbs_natCast, Int.natAbs_natCast]
      exact this
    rw [g1] at cg
    have l2 : ((q.den : Int) < 2) = False := eq_false (by omega)
    clear h z e nf dp hd g1
    generalize numS q = s at *
    generalize toS (q.num.natAbs : Int) = a at *
    generalize (q.num.natAbs : Int) = n at *
    generalize toS (q.den : Int) = b at *
    generalize (q.den : Int) = m at *
    generalize nv q = Q at *
    walk_at "evh"
theorem w_power {k : Nat} (h1 : 1 ≤ k) (h12 : k ≤ 12) : callF FT (N + 2) 112 [.str (powS k)] = .ok (.int (k : Int), false) := by
  have p4 := powS_sok (k := k) (by omega)
  have tp := powS_tl (k := k) (by omega)
  have qx : evCmp .eq (.str (powS k)) (.str "x") = .ok (.bl (decide (k = 1))) := by
    rw [s_eq p4 (sok_of "x"), beq_tl, tp, tl_x]
    congr 2
    by_cases e : k = 1
    · rw [if_pos e, decide_eq_true e]; exact decide_eq_true rfl
    · rw [if_neg e, decide_eq_false e]; exact decide_eq_false (by simp)
  rw [callF_s V.f112 rfl]
  unfold fd_power_read
  by_cases e : k = 1
  · subst e
    rw [decide_eq_true rfl] at qx
    clear p4 tp
    generalize powS 1 = s at *
    walk_at "evh"
  · rw [decide_eq_false e] at qx
    rw [if_neg e] at tp
    have sl : evSlc none (some 2) (.str (powS k)) = .ok (.str (Str.ofString "x^")) := by
      have := slcL p4 (by decide) 2
      rw [show L2.cutS (powS k) none (some ((2 : Nat) : Int)) = Str.ofString "x^" from str_ext (by rw [tl_cutL, tp, tl_xh]; rfl)] at this
      exact this
    have sr : evSlc (some 2) none (.str (powS k)) = .ok (.str (toS (k : Int))) := by
      have := slcR p4 (by decide) 2
      rw [show L2.cutS (powS k) (some ((2 : Nat) : Int)) none = toS (k : Int) from str_ext (by rw [tl_cutR, tp, tl_toS]; rfl)] at this
      exact this
    have nx : evCmp .ne (.str (Str.ofString "x^")) (.str "x^") = .ok (.bl false) := by
      rw [s_ne (sok_of "x^") (sok_of "x^"), show (Str.ofString "x^" == Str.ofString "x^") = true by decide +kernel]; rfl
    have cw : callF FT (N + 1) 106 [.str (toS (k : Int))] = _ := w_whole V (n := k) (by omega)
    have g1 : ((k : Int) < 2) = False := eq_false (by omega)
    have g2 : ((k : Int) > 12) = False := eq_false (by omega)
    have g2' : ((12 : Int) < (k : Int)) = False := eq_false (by omega)
    clear p4 tp e h1 h12
    generalize powS k = s at *
    generalize toS (k : Int) = t at *
    generalize (k : Int) = kk at *
    walk_at "evh"
omit V in
theorem cut_x {s : Str} {n : Nat} {c : Nat} {r : List Nat} (h : SOk n s) (hn : n ≤ 1000000) (e : TL.tl s = c :: r) : ∃ t, evSlc none (some 1) (.str s) = .ok (.str t) ∧ ∀ {d : Nat} {x : Str}, TL.tl x = [d] → SOk 1 x → evCmp .eq (.str t) (.str x) = .ok (.bl (decide (c = d))) := by
  have e1 := slcL h hn 1
  have et : TL.tl (L2.cutS s none (some ((1 : Nat) : Int))) = [c] := by rw [tl_cutL, e]; rfl
  refine ⟨_, e1, fun {d x} hx sx => ?_⟩
  have st : SOk 1 (L2.cutS s none (some ((1 : Nat) : Int))) := sok_tl (fun c' hc => by
    rw [et] at hc
    have : c' = c := by simpa using hc
    rw [this]
    exact h.tl c (by rw [e]; exact List.mem_cons_self)) (by rw [et]; exact Nat.le_refl _)
  rw [s_eq st sx, beq_tl, et, hx]
  congr 2
  exact decide_eq_decide.mpr ⟨fun z => by cases z; rfl, fun z => by rw [z]⟩
theorem w_termR {q : Rat} {k : Nat} (z : S12 q) (h12 : k ≤ 12) : callF FT (N + 3) 113 [.lst ((termW q k).map Val.str)] = .ok (.tup [nv (absR q), .int (k : Int)], false) := by
  have nn : 0 ≤ absR q := absR_nn
  have cs : callF FT (N + 2) 107 [.str (numS (absR q))] = _ := w_sizeR V nn z.abs
  have so := numS_sok12 nn z.abs
  obtain ⟨c, r, hn, fc⟩ := numS_head nn
  obtain ⟨t1, sl1, ce1⟩ := cut_x so (by decide) hn
  have ce1 := ce1 tl_x ((sok_of "x").mono (show _ ≤ 1 by decide))
  rw [decide_eq_false (by obtain ⟨a, b⟩ := fc; omega)] at ce1
  rw [callF_s V.f113 rfl]
  unfold fd_term_read termW
  by_cases h0 : k = 0
  · subst h0
    rw [if_pos rfl]
    have ix : evIx (.lst [.str (numS (absR q))]) (.int 0) = .ok (.str (numS (absR q))) := rfl
    have z0 : ((0 : Nat) : Int) = 0 := rfl
    show fin (evSs _ _ [some (.lst [.str (numS (absR q))], false)]) = _
    clear z nn so hn fc h12
    generalize numS (absR q) = s at *
    generalize nv (absR q) = Q at *
    walk_at "evh"
  · rw [if_neg h0]
    have cp : callF FT (N + 2) 112 [.str (powS k)] = _ := w_power V (by omega) h12
    have p4 := powS_sok (k := k) (by omega)
    obtain ⟨t2, sl2, ce2⟩ := cut_x p4 (by decide) (powS_tl h0)
    have ce2 := ce2 tl_x ((sok_of "x").mono (show _ ≤ 1 by decide))
    rw [decide_eq_true rfl] at ce2
    by_cases h1 : absR q = 1
    · rw [if_pos h1, h1]
      have ix : evIx (.lst [.str (powS k)]) (.int 0) = .ok (.str (powS k)) := rfl
      have n1 : Val.tup [.int 1, .int 1] = nv 1 := rfl
      show fin (evSs _ _ [some (.lst [.str (powS k)], false)]) = _
      clear z nn so hn fc h12 cs p4 h0 h1
      generalize powS k = s at *
      generalize (k : Int) = kk at *
      walk_at "evh"
    · rw [if_neg h1]
      have ix : evIx (.lst [.str (numS (absR q)), .str (powS k)]) (.int 0) = .ok (.str (numS (absR q))) := rfl
      have ix1 : evIx (.lst [.str (numS (absR q)), .str (powS k)]) (.int 1) = .ok (.str (powS k)) := rfl
      show fin (evSs _ _ [some (.lst [.str (numS (absR q)), .str (powS k)], false)]) = _
      clear z nn so hn fc h12 p4 h0 h1
      generalize powS k = s at *
      generalize numS (absR q) = s2 at *
      generalize nv (absR q) = Q at *
      generalize (k : Int) = kk at *
      walk_at "evh"
end
end Tx
end
section
set_option linter.all false
set_option maxHeartbeats 2000000
set_option maxRecDepth 10000
open PySem
def fd_terms_of : FD := ⟨1, 4, [.set 1 (.cmp .eq (.slc (.bor 0) none (some (.cst (.int 1)))) (.cst (.str "-"))), .trm 2 3 (.lst [(.tup [(.nm 1), (.lst [])])]) (.or (.cmp .eq (.bor 3) (.cst (.str "+"))) (.cmp .eq (.bor 3) (.cst (.str "-")))) (.tup [(.cmp .eq (.bor 3) (.cst (.str "-"))), (.lst [])]) (.sp (.slc (.bor 0) (some (.blt .int [(.bor 1)])) none) " "), .ret (.nm 2)]⟩
namespace Tx
def gV (p : Gp) : Val := .tup [.bl p.1, .lst (p.2.map Val.str)]
section
variable {c : Env → G.R Bool} {s : Env → G.R (Val × Bool)} {T B : Option (Val × Bool)}
theorem go_words (hc : ∀ w : Str, Wd w → SOk 90 w → c [T, B, none, some (.str w, false)] = .ok false) : ∀ (W : List Str) (rest : List Val) (z : Option (Val × Bool)) (d : List Val) (b : Bool) (ws : List Val), (∀ w ∈ W, Wd w ∧ SOk 90 w) → ws.length + W.length ≤ 1000 →
    ∃ z', trmG 3 c s (W.map Val.str ++ rest) [T, B, none, z] d b ws = trmG 3 c s rest [T, B, none, z'] d b (ws ++ W.map Val.str)
  | [], rest, z, d, b, ws, _, _ => ⟨z, by rw [List.map_nil, List.nil_append, List.append_nil]⟩
  | w :: W, rest, z, d, b, ws, h, hl => by
    rw [List.length_cons] at hl
    obtain ⟨z', e⟩ := go_words hc W rest (some (.str w, false)) d b (ws ++ [.str w]) (fun x hx => h x (List.mem_cons_of_mem _ hx)) (by rw [List.length_append]; show _ + 1 + _ ≤ _; omega)
    refine ⟨z', ?_⟩
    have h1 := hc w (h w List.mem_cons_self).1 (h w List.mem_cons_self).2
    have lo : lenOk (ws.length + 1) = true := lenOk_lit (by omega)
    show trmG 3 c s (.str w :: (W.map Val.str ++ rest)) [T, B, none, z] d b ws = _
    have e0 : trmG 3 c s (.str w :: (W.map Val.str ++ rest)) [T, B, none, z] d b ws = trmG 3 c s (W.map Val.str ++ rest) [T, B, none, some (.str w, false)] d b (ws ++ [.str w]) := by
      rw [trmG]
      rw [if_pos (show noL (.str w) = true from rfl)]
      show (match c [T, B, none, some (.str w, false)] with | .ok true => _ | .ok false => _ | _ => _) = _
      rw [h1]
      dsimp only
      rw [if_pos lo]
      rfl
    rw [e0, e, List.map_cons, List.append_assoc]
    rfl
theorem go_groups (hc : ∀ w : Str, Wd w → SOk 90 w → c [T, B, none, some (.str w, false)] = .ok false) (hs : ∀ b, c [T, B, none, some (.str (sgS b), false)] = .ok true ∧ s [T, B, none, some (.str (sgS b), false)] = .ok (.tup [.bl b, .lst []], false)) :
    ∀ (g : List Gp) (z : Option (Val × Bool)) (d : List Val) (b : Bool) (ws : List Val), (∀ p ∈ g, (∀ w ∈ p.2, Wd w ∧ SOk 90 w) ∧ p.2.length ≤ 2) → d.length + g.length ≤ 1000 →
    ∃ z', trmG 3 c s ((tailW g).map Val.str) [T, B, none, z] d b ws = some ([T, B, none, z'], d ++ (.tup [.bl b, .lst ws] :: g.map gV))
  | [], z, d, b, ws, _, _ => ⟨z, rfl⟩
  | (b', W) :: g, z, d, b, ws, h, hl => by
    rw [List.length_cons] at hl
    obtain ⟨h1, h2⟩ := hs b'
    obtain ⟨hw, hw2⟩ := h (b', W) List.mem_cons_self
    obtain ⟨z1, e1⟩ := go_words (s := s) hc W ((tailW g).map Val.str) (some (.str (sgS b'), false)) (d ++ [.tup [.bl b, .lst ws]]) b' [] hw (by show 0 + W.length ≤ 1000; have : W.length ≤ 2 := hw2; omega)
    obtain ⟨z2, e2⟩ := go_groups hc hs g z1 (d ++ [.tup [.bl b, .lst ws]]) b' (W.map Val.str) (fun p hp => h p (List.mem_cons_of_mem _ hp)) (by rw [List.length_append]; show _ + 1 + _ ≤ _; omega)
    refine ⟨z2, ?_⟩
    have lo : lenOk (d.length + 2) = true := lenOk_lit (by omega)
    have e0 : trmG 3 c s (.str (sgS b') :: (W ++ tailW g).map Val.str) [T, B, none, z] d b ws = trmG 3 c s ((W ++ tailW g).map Val.str) [T, B, none, some (.str (sgS b'), false)] (d ++ [.tup [.bl b, .lst ws]]) b' [] := by
      rw [trmG]
      rw [if_pos (show noL (.str (sgS b')) = true from rfl)]
      show (match c [T, B, none, some (.str (sgS b'), false)] with | .ok true => (match s [T, B, none, some (.str (sgS b'), false)] with | .ok (.tup [.bl k, .lst []], false) => _ | _ => _) | .ok false => _ | _ => _) = _
      rw [h1, h2]
      dsimp only
      rw [if_pos lo]
      rfl
    show trmG 3 c s (.str (sgS b') :: (W ++ tailW g).map Val.str) [T, B, none, z] d b ws = _
    rw [e0, List.map_append, e1, List.nil_append, e2, List.append_assoc]
    rfl
end
def Gs (l : List Rat) : List Gp := if grp l l.length = [] then [(false, [Str.ofString "0"])] else grp l l.length
theorem S12.grp {l : List Rat} (h : ∀ q ∈ l, S12 q) : ∀ k, k ≤ 13 → ∀ p ∈ G.Tx.grp l k, ∀ w ∈ p.2, SOk 90 w
  | 0, _, p, hp => by cases hp
  | k + 1, hk, p, hp => by
    unfold G.Tx.grp at hp
    have z : S12 (co l k) := by
      by_cases hl : k < l.length
      · exact h _ (List.mem_iff_getElem?.mpr ⟨k, co_get hl⟩)
      · rw [co_out (by omega)]; exact ⟨by decide +kernel, by decide +kernel⟩
    split at hp
    · exact S12.grp h k (by omega) p hp
    · rcases List.mem_append.mp hp with hp | hp
      · exact S12.grp h k (by omega) p hp
      · rw [List.mem_singleton.mp hp]
        intro w hw
        have n := (numS_sok12 (absR_nn (q := co l k)) z.abs).mono (show 81 ≤ 90 by decide)
        have p4 := (powS_sok (k := k) (by omega)).mono (show 4 ≤ 90 by decide)
        have hw : w ∈ termW (co l k) k := hw
        unfold termW at hw
        split at hw
        · rw [List.mem_singleton.mp hw]; exact n
        · split at hw
          · rw [List.mem_singleton.mp hw]; exact p4
          · rcases List.mem_cons.mp hw with rfl | hw
            · exact n
            · rw [List.mem_singleton.mp hw]; exact p4
theorem wd_0 : Wd (Str.ofString "0") := ⟨⟨48, [], tl_0, .inl ⟨by decide, by decide⟩⟩, by rw [tl_0]; decide⟩
theorem Gs_ok {l : List Rat} (h : ∀ q ∈ l, S12 q) (h13 : l.length ≤ 13) : Gs l ≠ [] ∧ (Gs l).length ≤ 13 ∧ (∀ p ∈ Gs l, (∀ w ∈ p.2, Wd w ∧ SOk 90 w) ∧ p.2.length ≤ 2 ∧ p.2 ≠ []) ∧ TL.tl (showS l) = (if hdB (Gs l) then [45] else []) ++ jn (wds (Gs l)) ∧ wds (Gs l) ≠ [] := by
  unfold Gs showS
  by_cases e : grp l l.length = []
  · rw [if_pos e, if_pos ((grp_nil _).mp e)]
    refine ⟨by simp, by simp, fun p hp => ?_, tl_0, by simp [wds, tailW]⟩
    rw [List.mem_singleton.mp hp]
    refine ⟨fun w hw => ?_, by simp, by simp⟩
    rw [List.mem_singleton.mp hw]
    exact ⟨wd_0, (sok_of "0").mono (show _ ≤ 90 by decide)⟩
  · rw [if_neg e, if_neg (fun z => e ((grp_nil _).mpr z))]
    refine ⟨e, Nat.le_trans (grp_len _) h13, fun p hp => ?_, cat_jn _ e, grp_wds _ e⟩
    obtain ⟨h1, h2, h3⟩ := grp_wd _ p hp
    exact ⟨fun w hw => ⟨h1 w hw, S12.grp h _ h13 p hp w hw⟩, h3, h2⟩
section
variable {FT : Nat → Option FD} (f114 : FT 114 = some fd_terms_of) {N : Nat}
include f114
theorem w_terms {l : List Rat} (h : ∀ q ∈ l, S12 q) (h13 : l.length ≤ 13) : callF FT (N + 1) 114 [.str (showS l)] = .ok (.lst ((Gs l).map gV), false) := by
  obtain ⟨g0, gl, gp, gt, gw⟩ := Gs_ok h h13
  have so := showS_sok (l := l) (fun q hq => (h q hq).sz) (by omega)
  cases eg : Gs l with
  | nil => exact absurd eg g0
  | cons p0 gr =>
  obtain ⟨b0, W0⟩ := p0
  rw [eg] at gl gp gt gw
  have hb : hdB ((b0, W0) :: gr) = b0 := rfl
  rw [hb] at gt
  obtain ⟨gp0, gl0, gn0⟩ := gp (b0, W0) List.mem_cons_self
  obtain ⟨c0, r0, ec, fc⟩ : ∃ c r, jn (wds ((b0, W0) :: gr)) = c :: r ∧ c ≠ 45 := by
    cases W0 with
    | nil => exact absurd rfl gn0
    | cons w W =>
      obtain ⟨⟨c, r, e, f⟩, _⟩ := (gp0 w List.mem_cons_self).1
      have : ∃ r', jn (w :: (W ++ tailW gr)) = TL.tl w ++ r' := by
        cases W ++ tailW gr with
        | nil => exact ⟨[], by rw [List.append_nil]; rfl⟩
        | cons x y => exact ⟨_, rfl⟩
      obtain ⟨r', e'⟩ := this
      refine ⟨c, r ++ r', ?_, ?_⟩
      · show jn (w :: (W ++ tailW gr)) = _
        rw [e', e]; rfl
      · rcases f with f | f
        · unfold Fig at f; omega
        · omega
  obtain ⟨cc, rr, et⟩ : ∃ c r, TL.tl (showS l) = c :: r := by
    rw [gt, ec]
    cases b0
    · exact ⟨_, _, rfl⟩
    · exact ⟨_, _, rfl⟩
  obtain ⟨t1, sl1, ce1⟩ := cut_x so (by decide) et
  have ce1 := ce1 tl_mi ((sok_of "-").mono (show _ ≤ 1 by decide))
  have hbb : decide (cc = 45) = b0 := by
    rw [gt, ec] at et
    cases b0
    · cases et; exact decide_eq_false fc
    · cases et; exact decide_eq_true rfl
  rw [hbb] at ce1
  obtain ⟨t2, sr, et2, so2⟩ : ∃ t2, evSlc (some (if b0 then 1 else 0)) none (.str (showS l)) = .ok (.str t2) ∧ TL.tl t2 = jn (wds ((b0, W0) :: gr)) ∧ SOk 2000 t2 := by
    have e1 := slcR so (by decide) (if b0 then 1 else 0)
    have e2 : TL.tl (L2.cutS (showS l) (some ((if b0 then 1 else 0 : Nat) : Int)) none) = jn (wds ((b0, W0) :: gr)) := by
      rw [tl_cutR, gt]
      cases b0 <;> rfl
    refine ⟨_, ?_, e2, so.cut (fun c hc => ?_) ?_⟩
    · rw [← e1]; cases b0 <;> rfl
    · rw [tl_cutR] at hc; exact List.mem_of_mem_drop hc
    · rw [tl_cutR, List.length_drop, ← TL.len_tl]; have := so.l; omega
  have sp : evSp (Str.ofString " ") (.str t2) = .ok (.lst ((wds ((b0, W0) :: gr)).map Val.str)) := by
    show (if (!((Str.ofString " ").length == 0) && lenOk (t2.length + 2)) = true then G.R.ok (Val.lst ((Txt.split t2 (Str.ofString " ")).map Val.str)) else .bad) = _
    rw [lenOk_lit (by have := so2.l; omega), show (Str.ofString " ").length = 1 by decide +kernel, if_pos (show (!((1 : Nat) == 0) && true) = true from rfl), split_wds (fun p hp w hw => ((gp p hp).1 w hw).1) gw et2]
  have e1 : evSs (callF FT N) [.set 1 (.cmp .eq (.slc (.bor 0) none (some (.cst (.int 1)))) (.cst (.str "-")))] [some (.str (showS l), false), none, none, none] = .nx [some (.str (showS l), false), some (.bl b0, false), none, none] := by
    clear eg g0 gl gp gt gw hb gp0 gl0 gn0 ec fc et sr et2 so2 sp so hbb h h13
    generalize showS l = s at *
    walk_at "evh"
  have eI : evIt (callF FT N) (.val (.sp (.slc (.bor 0) (some (.blt .int [(.bor 1)])) none) " ")) [some (.str (showS l), false), some (.bl b0, false), none, none] = .ok ((wds ((b0, W0) :: gr)).map Val.str) := by
    have it : itemsOf (.lst ((wds ((b0, W0) :: gr)).map Val.str)) = .ok ((wds ((b0, W0) :: gr)).map Val.str) := rfl
    have is : isLst (.lst ((wds ((b0, W0) :: gr)).map Val.str)) = true := rfl
    clear eg g0 gl gp gt gw hb gp0 gl0 gn0 ec fc et et2 so2 so hbb h h13 e1 sl1 ce1
    generalize showS l = s at *
    generalize (wds ((b0, W0) :: gr)).map Val.str = Ws at *
    generalize Val.lst Ws = WL at *
    cases b0
    · replace sr : evSlc (some 0) none (.str s) = .ok (.str t2) := sr
      walk_at "evh"
    · replace sr : evSlc (some 1) none (.str s) = .ok (.str t2) := sr
      walk_at "evh"
  have hc : ∀ w : Str, Wd w → SOk 90 w → evT (callF FT N) (.or (.cmp .eq (.bor 3) (.cst (.str "+"))) (.cmp .eq (.bor 3) (.cst (.str "-")))) [some (.str (showS l), false), some (.bl b0, false), none, some (.str w, false)] = .ok false := fun w hw sw => by
    have q1 : evCmp .eq (.str w) (.str "+") = .ok (.bl false) := by rw [s_eq sw (sok_of "+"), beq_eq_false_iff_ne.mpr hw.pl]
    have q2 : evCmp .eq (.str w) (.str "-") = .ok (.bl false) := by rw [s_eq sw (sok_of "-"), beq_eq_false_iff_ne.mpr hw.mi]
    show (vl (callF FT N) (.or (.cmp .eq (.bor 3) (.cst (.str "+"))) (.cmp .eq (.bor 3) (.cst (.str "-")))) [some (.str (showS l), false), some (.bl b0, false), none, some (.str w, false)]).bind truth = _
    clear eg g0 gl gp gt gw hb gp0 gl0 gn0 ec fc et et2 so2 so hbb h h13 e1 sl1 ce1 eI sp sr
    walk_at "evh"
  have hs : ∀ b, evT (callF FT N) (.or (.cmp .eq (.bor 3) (.cst (.str "+"))) (.cmp .eq (.bor 3) (.cst (.str "-")))) [some (.str (showS l), false), some (.bl b0, false), none, some (.str (sgS b), false)] = .ok true ∧ evE (callF FT N) (.tup [(.cmp .eq (.bor 3) (.cst (.str "-"))), (.lst [])]) [some (.str (showS l), false), some (.bl b0, false), none, some (.str (sgS b), false)] = .ok (.tup [.bl b, .lst []], false) := fun b => by
    have pp : evCmp .eq (.str "+") (.str "+") = .ok (.bl true) := by rw [s_eq (sok_of "+") (sok_of "+"), beq_self_eq_true]
    have mm : evCmp .eq (.str "-") (.str "-") = .ok (.bl true) := by rw [s_eq (sok_of "-") (sok_of "-"), beq_self_eq_true]
    have pm : evCmp .eq (.str "+") (.str "-") = .ok (.bl false) := by rw [s_eq (sok_of "+") (sok_of "-"), show (Str.ofString "+" == Str.ofString "-") = false by decide +kernel]
    have mp : evCmp .eq (.str "-") (.str "+") = .ok (.bl false) := by rw [s_eq (sok_of "-") (sok_of "+"), show (Str.ofString "-" == Str.ofString "+") = false by decide +kernel]
    have x1 : (evT (callF FT N) (.or (.cmp .eq (.bor 3) (.cst (.str "+"))) (.cmp .eq (.bor 3) (.cst (.str "-")))) [some (.str (showS l), false), some (.bl b0, false), none, some (.str (sgS b), false)]) = (vl (callF FT N) (.or (.cmp .eq (.bor 3) (.cst (.str "+"))) (.cmp .eq (.bor 3) (.cst (.str "-")))) [some (.str (showS l), false), some (.bl b0, false), none, some (.str (sgS b), false)]).bind truth := rfl
    rw [x1]
    clear x1 eg g0 gl gp gt gw hb gp0 gl0 gn0 ec fc et et2 so2 so hbb h h13 e1 sl1 ce1 eI sp sr hc
    cases b
    · rw [show sgS false = Str.ofString "+" from rfl]
      constructor
      · walk_at "evh"
      · walk_at "evh"
    · rw [show sgS true = Str.ofString "-" from rfl]
      constructor
      · walk_at "evh"
      · walk_at "evh"
  obtain ⟨z1, q1⟩ := go_words (s := fun e => evE (callF FT N) (.tup [(.cmp .eq (.bor 3) (.cst (.str "-"))), (.lst [])]) e) hc W0 ((tailW gr).map Val.str) none [] b0 [] gp0 (by show 0 + W0.length ≤ 1000; have : W0.length ≤ 2 := gl0; omega)
  obtain ⟨z2, q2⟩ := go_groups (c := fun e => evT (callF FT N) (.or (.cmp .eq (.bor 3) (.cst (.str "+"))) (.cmp .eq (.bor 3) (.cst (.str "-")))) e) (s := fun e => evE (callF FT N) (.tup [(.cmp .eq (.bor 3) (.cst (.str "-"))), (.lst [])]) e) hc hs gr z1 [] b0 (W0.map Val.str) (fun p hp => ⟨(gp p (List.mem_cons_of_mem _ hp)).1, (gp p (List.mem_cons_of_mem _ hp)).2.1⟩) (by rw [List.length_cons] at gl; show 0 + gr.length ≤ 1000; omega)
  have e2 : evS (callF FT N) (.trm 2 3 (.lst [(.tup [(.nm 1), (.lst [])])]) (.or (.cmp .eq (.bor 3) (.cst (.str "+"))) (.cmp .eq (.bor 3) (.cst (.str "-")))) (.tup [(.cmp .eq (.bor 3) (.cst (.str "-"))), (.lst [])]) (.sp (.slc (.bor 0) (some (.blt .int [(.bor 1)])) none) " ")) [some (.str (showS l), false), some (.bl b0, false), none, none] = .nx [some (.str (showS l), false), some (.bl b0, false), some (.lst (((b0, W0) :: gr).map gV), false), z2] := by
    show trmO 2 3 (.ok (.lst [.tup [.bl b0, .lst []]], true)) (evIt (callF FT N) (.val (.sp (.slc (.bor 0) (some (.blt .int [(.bor 1)])) none) " ")) [some (.str (showS l), false), some (.bl b0, false), none, none]) _ _ [some (.str (showS l), false), some (.bl b0, false), none, none] = _
    rw [eI]
    show (match trmG 3 _ _ ((W0 ++ tailW gr).map Val.str) [some (.str (showS l), false), some (.bl b0, false), none, none] [] b0 [] with | some (env', d) => O.nx (put env' 2 (.lst d) false) | none => .bad) = _
    rw [List.map_append, q1, List.nil_append, q2]
    rfl
  rw [callF_s f114 rfl, show fd_terms_of.body = [.set 1 (.cmp .eq (.slc (.bor 0) none (some (.cst (.int 1)))) (.cst (.str "-")))] ++ [.trm 2 3 (.lst [(.tup [(.nm 1), (.lst [])])]) (.or (.cmp .eq (.bor 3) (.cst (.str "+"))) (.cmp .eq (.bor 3) (.cst (.str "-")))) (.tup [(.cmp .eq (.bor 3) (.cst (.str "-"))), (.lst [])]) (.sp (.slc (.bor 0) (some (.blt .int [(.bor 1)])) none) " "), .ret (.nm 2)] from rfl, show startE fd_terms_of.nl [.str (showS l)] = [some (.str (showS l), false), none, none, none] from rfl, ss_app, e1, thn_nx, ss_cons', e2, thn_nx]
  rfl
end
end Tx
end
section
set_option linter.all false
set_option maxHeartbeats 2000000
set_option maxRecDepth 10000
open PySem
def fd_read_curve : FD := ⟨1, 7, [.ifs (.not (.isi (.bor 0) [(.ty "str")])) [.rse 7] [], .set 1 (.bin .mul (.lst [(.cst (.tup [(.int 0), (.int 1)]))]) (.bin .add (.cst (.int 12)) (.cst (.int 1)))), .for (.tup [2, 3]) (.val (.call 114 [(.nm 0)])) [.unp [4, 5] (.call 113 [(.nm 3)]), .six 1 (.bor 5) (.tup [(.bin .mul (.ix (.lst [(.cst (.int 1)), (.neg (.cst (.int 1)))]) (.blt .int [(.bor 2)])) (.ix (.bor 4) (.cst (.int 0)))), (.ix (.bor 4) (.cst (.int 1)))])], .set 6 (.call 8 [(.nm 1)]), .ifs (.cmp .ne (.call 111 [(.nm 6)]) (.bor 0)) [.rse 7] [], .ret (.nm 6)]⟩
namespace Tx
def rdT : E := .tup [(.bin .mul (.ix (.lst [(.cst (.int 1)), (.neg (.cst (.int 1)))]) (.blt .int [(.bor 2)])) (.ix (.bor 4) (.cst (.int 0)))), (.ix (.bor 4) (.cst (.int 1)))]
def rdB : List S := [.unp [4, 5] (.call 113 [(.nm 3)]), .six 1 (.bor 5) rdT]
def grpF (l : List Rat) (k : Nat) : Nat → List Gp
  | 0 => []
  | d + 1 => if co l k = 0 then grpF l (k + 1) d else (decide (co l k < 0), termW (co l k) k) :: grpF l (k + 1) d
theorem grp_app {l : List Rat} : ∀ (d k : Nat), grp l (k + d) = grp l k ++ grpF l k d
  | 0, k => by rw [Nat.add_zero, grpF, List.append_nil]
  | d + 1, k => by
    rw [show k + (d + 1) = (k + 1) + d by omega, grp_app d (k + 1)]
    rw [grp, grpF]
    split
    · rfl
    · rw [List.append_assoc]; rfl
theorem grp_F {l : List Rat} (n : Nat) : grp l n = grpF l 0 n := by
  have := grp_app (l := l) n 0
  rw [Nat.zero_add] at this
  rw [this]; rfl
def padL (l : List Rat) (k : Nat) : List Rat := l.take k ++ List.replicate (13 - k) 0
theorem pad_len {l : List Rat} {k : Nat} (hk : k ≤ l.length) (h : l.length ≤ 13) : (padL l k).length = 13 := by
  unfold padL
  rw [List.length_append, List.length_take, List.length_replicate]; omega
theorem take_co {l : List Rat} {k : Nat} (hk : k < l.length) : l.take (k + 1) = l.take k ++ [co l k] := by
  have e : co l k = l[k] := by
    have := co_get hk
    rw [List.getElem?_eq_getElem hk] at this
    exact (Option.some.inj this).symm
  rw [e]; exact List.take_succ_eq_append_getElem hk
theorem set_at {α : Type} {x y : α} {B : List α} : ∀ A : List α, (A ++ x :: B).set A.length y = A ++ y :: B
  | [] => rfl
  | a :: A => by
    show a :: (A ++ x :: B).set A.length y = a :: (A ++ y :: B)
    rw [set_at A]
theorem pad_set {l : List Rat} {k : Nat} (hk : k < l.length) (h : l.length ≤ 13) : (padL l k).set k (co l k) = padL l (k + 1) := by
  unfold padL
  rw [take_co hk, show 13 - k = (13 - (k + 1)) + 1 by omega, List.replicate_succ]
  have e := set_at (x := (0 : Rat)) (y := co l k) (B := List.replicate (13 - (k + 1)) 0) (l.take k)
  rw [show (l.take k).length = k by rw [List.length_take]; omega] at e
  rw [e, List.append_assoc]; rfl
theorem pad_zero {l : List Rat} {k : Nat} (hk : k < l.length) (h : l.length ≤ 13) (z : co l k = 0) : padL l k = padL l (k + 1) := by
  unfold padL
  rw [take_co hk, z, show 13 - k = (13 - (k + 1)) + 1 by omega, List.replicate_succ, List.append_assoc]; rfl
theorem pad_put {l : List Rat} {k : Nat} (hk : k < l.length) (h : l.length ≤ 13) : ixPut ((padL l k).map nv) (k : Int) (nv (co l k)) = .ok ((padL l (k + 1)).map nv) := by
  have e : L2.ixN ((padL l k).map nv).length (k : Int) = some k := by
    rw [List.length_map, pad_len (by omega) h]
    unfold L2.ixN
    simp
    omega
  unfold ixPut
  rw [e]
  dsimp only
  rw [← pad_set hk h, List.map_set]
theorem nv_parts {q : Rat} : Val.tup [.int ((if q < 0 then -1 else 1) * (absR q).num), .int ((absR q).den : Int)] = nv q := by
  show _ = Val.tup [.int q.num, .int (q.den : Int)]
  rw [absR_num.1, absR_num.2]
  congr 3
  by_cases h : q < 0
  · have : q.num < 0 := by
      refine Classical.byContradiction fun z => ?_
      have := Rat.num_nonneg.mp (show 0 ≤ q.num by omega)
      grind
    rw [if_pos h]; omega
  · have := Rat.num_nonneg.mpr (Rat.not_lt.mp h)
    rw [if_neg h]; omega
structure BD (FT : Nat → Option FD) : Prop extends BR FT, BX FT where
  f8 : FT 8 = some fd_without_noughts
  f114 : FT 114 = some fd_terms_of
  f115 : FT 115 = some fd_read_curve
section
variable {FT : Nat → Option FD} (V : BD FT) {N : Nat}
include V
theorem rd_step {q : Rat} {k : Nat} (z : S12 q) (h12 : k ≤ 12) {M M' : List Rat} {x0 x4 x5 x6 : Option (Val × Bool)} (ip : ixPut (M.map nv) (k : Int) (nv q) = .ok (M'.map nv)) :
    evSs (callF FT (N + 3)) rdB [x0, some (lv M, true), some (.bl (decide (q < 0)), false), some (.lst ((termW q k).map Val.str), false), x4, x5, x6] = .nx [x0, some (lv M', true), some (.bl (decide (q < 0)), false), some (.lst ((termW q k).map Val.str), false), some (nv (absR q), false), some (.int (k : Int), false), x6] := by
  have c1 : callF FT (N + 3) 113 [.lst ((termW q k).map Val.str)] = _ := w_termR V.toBR (N := N) z h12
  have bt : bindT (.tup [4, 5]) [x0, some (lv M, true), some (.bl (decide (q < 0)), false), some (.lst ((termW q k).map Val.str), false), x4, x5, x6] (.tup [nv (absR q), .int (k : Int)]) = .ok [x0, some (lv M, true), some (.bl (decide (q < 0)), false), some (.lst ((termW q k).map Val.str), false), some (nv (absR q), false), some (.int (k : Int), false), x6] := rfl
  have e1 : evSs (callF FT (N + 3)) [.unp [4, 5] (.call 113 [(.nm 3)])] [x0, some (lv M, true), some (.bl (decide (q < 0)), false), some (.lst ((termW q k).map Val.str), false), x4, x5, x6] = .nx [x0, some (lv M, true), some (.bl (decide (q < 0)), false), some (.lst ((termW q k).map Val.str), false), some (nv (absR q), false), some (.int (k : Int), false), x6] := by
    clear ip z h12
    generalize Val.lst ((termW q k).map Val.str) = Wl at *
    generalize Val.tup [nv (absR q), .int (k : Int)] = T at *
    generalize decide (q < 0) = b at *
    walk_at "evh"
  have e2 : evE (callF FT (N + 3)) rdT [x0, some (lv M, true), some (.bl (decide (q < 0)), false), some (.lst ((termW q k).map Val.str), false), some (nv (absR q), false), some (.int (k : Int), false), x6] = .ok (nv q, false) := by
    have i0 : evIx (nv (absR q)) (.int 0) = .ok (.int (absR q).num) := rfl
    have i1 : evIx (nv (absR q)) (.int 1) = .ok (.int ((absR q).den : Int)) := rfl
    have np := @nv_parts q
    have l0 : evIx (.lst [.int 1, .int (-1)]) (.int 0) = .ok (.int 1) := rfl
    have l1 : evIx (.lst [.int 1, .int (-1)]) (.int 1) = .ok (.int (-1)) := rfl
    have ma : (absR q).num.natAbs < 2 ^ 40 := Nat.lt_trans z.abs.1 (by decide +kernel)
    have m1 : mulOk 1 (absR q).num = true := mul_small (m := 1) (n := 40) (by decide) ma (by decide)
    have m2 : mulOk (-1) (absR q).num = true := mul_small (m := 1) (n := 40) (by decide) ma (by decide)
    unfold rdT
    clear ip c1 bt e1 z h12 ma
    by_cases h : q < 0
    · rw [decide_eq_true h]
      rw [if_pos h] at np
      clear h
      generalize (absR q).num = u at *
      generalize ((absR q).den : Int) = v at *
      generalize nv (absR q) = Q1 at *
      generalize nv q = Q at *
      walk_at "evh"
    · rw [decide_eq_false h]
      rw [if_neg h] at np
      clear h
      generalize (absR q).num = u at *
      generalize ((absR q).den : Int) = v at *
      generalize nv (absR q) = Q1 at *
      generalize nv q = Q at *
      walk_at "evh"
  have e3 : evS (callF FT (N + 3)) (.six 1 (.bor 5) rdT) [x0, some (lv M, true), some (.bl (decide (q < 0)), false), some (.lst ((termW q k).map Val.str), false), some (nv (absR q), false), some (.int (k : Int), false), x6] = .nx [x0, some (lv M', true), some (.bl (decide (q < 0)), false), some (.lst ((termW q k).map Val.str), false), some (nv (absR q), false), some (.int (k : Int), false), x6] := by
    show rO [x0, some (lv M, true), some (.bl (decide (q < 0)), false), some (.lst ((termW q k).map Val.str), false), some (nv (absR q), false), some (.int (k : Int), false), x6] (evE (callF FT (N + 3)) rdT [x0, some (lv M, true), some (.bl (decide (q < 0)), false), some (.lst ((termW q k).map Val.str), false), some (nv (absR q), false), some (.int (k : Int), false), x6]) (fun p => rO [x0, some (lv M, true), some (.bl (decide (q < 0)), false), some (.lst ((termW q k).map Val.str), false), some (nv (absR q), false), some (.int (k : Int), false), x6] (ixPut (M.map nv) (k : Int) p.1) fun ys => .nx [x0, some (.lst ys, true), some (.bl (decide (q < 0)), false), some (.lst ((termW q k).map Val.str), false), some (nv (absR q), false), some (.int (k : Int), false), x6]) = _
    rw [e2]
    show rO _ (ixPut (M.map nv) (k : Int) (nv q)) _ = _
    rw [ip]
    rfl
  rw [show rdB = [.unp [4, 5] (.call 113 [(.nm 3)])] ++ [.six 1 (.bor 5) rdT] from rfl, ss_app, e1, thn_nx, ss_cons', e3, thn_nx]
  rfl
theorem rd_loop {l : List Rat} (h : ∀ q ∈ l, S12 q) (h13 : l.length ≤ 13) {x0 x6 : Option (Val × Bool)} : ∀ (d k : Nat) (z2 z3 z4 z5 : Option (Val × Bool)), k + d = l.length → ∃ y2 y3 y4 y5, forL (.tup [2, 3]) (fun env' => evSs (callF FT (N + 3)) rdB env') ((grpF l k d).map gV) [x0, some (lv (padL l k), true), z2, z3, z4, z5, x6] = .nx [x0, some (lv (padL l l.length), true), y2, y3, y4, y5, x6]
  | 0, k, z2, z3, z4, z5, e => ⟨z2, z3, z4, z5, by rw [show k = l.length by omega]; rfl⟩
  | d + 1, k, z2, z3, z4, z5, e => by
    have hk : k < l.length := by omega
    by_cases z : co l k = 0
    · obtain ⟨y2, y3, y4, y5, e2⟩ := rd_loop h h13 d (k + 1) z2 z3 z4 z5 (by omega)
      refine ⟨y2, y3, y4, y5, ?_⟩
      rw [grpF, if_pos z, pad_zero hk h13 z]
      exact e2
    · have zq : S12 (co l k) := h _ (List.mem_iff_getElem?.mpr ⟨k, co_get hk⟩)
      obtain ⟨y2, y3, y4, y5, e2⟩ := rd_loop h h13 d (k + 1) (some (.bl (decide (co l k < 0)), false)) (some (.lst ((termW (co l k) k).map Val.str), false)) (some (nv (absR (co l k)), false)) (some (.int (k : Int), false)) (by omega)
      refine ⟨y2, y3, y4, y5, ?_⟩
      rw [grpF, if_neg z, List.map_cons, ← e2]
      exact forL_cons (env1 := [x0, some (lv (padL l k), true), some (.bl (decide (co l k < 0)), false), some (.lst ((termW (co l k) k).map Val.str), false), z4, z5, x6]) rfl (rd_step V (N := N) zq (by omega) (pad_put hk h13))
theorem w_read {l : List Rat} (tl : Trim l) (h : ∀ q ∈ l, S12 q) (h13 : l.length ≤ 13) : callF FT (N + 5) 115 [.str (showS l)] = .ok (cv l, false) := by
  have c1 : callF FT (N + 4) 114 [.str (showS l)] = _ := w_terms V.f114 (N := N + 3) h h13
  have c8 : callF FT (N + 4) 8 [lv (padL l l.length)] = _ := callF_wn V.f8 (n := N + 3) (l := padL l l.length) (.inr rfl)
  have et : trim (padL l l.length) = l := by
    unfold padL
    rw [List.take_length, trim_rep]; exact tl
  rw [et] at c8
  have cs : callF FT (N + 4) 111 [cv l] = _ := w_show V.toBX (N := N + 1) (fun q hq => (h q hq).sz) (by omega)
  have so := showS_sok (l := l) (fun q hq => (h q hq).sz) (by omega)
  have nq : evCmp .ne (.str (showS l)) (.str (showS l)) = .ok (.bl false) := by rw [s_ne so so, beq_self_eq_true]; rfl
  have is : isiA (.str (showS l)) [.ty "str"] = .ok true := rfl
  have e0 : evSs (callF FT (N + 4)) [.ifs (.not (.isi (.bor 0) [(.ty "str")])) [.rse 7] [], .set 1 (.bin .mul (.lst [(.cst (.tup [(.int 0), (.int 1)]))]) (.bin .add (.cst (.int 12)) (.cst (.int 1))))] [some (.str (showS l), false), none, none, none, none, none, none] = .nx [some (.str (showS l), false), some (lv (padL l 0), true), none, none, none, none, none] := rfl
  obtain ⟨y2, y3, y4, y5, eL⟩ : ∃ y2 y3 y4 y5, forL (.tup [2, 3]) (fun env' => evSs (callF FT (N + 4)) rdB env') ((Gs l).map gV) [some (.str (showS l), false), some (lv (padL l 0), true), none, none, none, none, none] = .nx [some (.str (showS l), false), some (lv (padL l l.length), true), y2, y3, y4, y5, none] := by
    unfold Gs
    by_cases e : grp l l.length = []
    · rw [if_pos e]
      have hz : ∀ k, k ≤ l.length → grp l k = [] := fun k hk => by
        have := grp_app (l := l) (l.length - k) k
        rw [show k + (l.length - k) = l.length by omega, e] at this
        exact (List.append_eq_nil_iff.mp this.symm).1
      have l0 : l = [] := tl.not_zero fun a ha => by
        obtain ⟨k, hk⟩ := List.mem_iff_getElem?.mp ha
        have hl : k < l.length := (List.getElem?_eq_some_iff.mp hk).1
        have h1 := hz (k + 1) (by omega)
        rw [grp] at h1
        have hc : co l k = a := by
          have := co_get hl
          rw [hk] at this
          exact (Option.some.inj this).symm
        split at h1
        · rename_i z; rw [← hc]; exact z
        · simp at h1
      subst l0
      have t0 : termW 0 0 = [Str.ofString "0"] := by
        show [numS (absR 0)] = _
        have : numS (absR 0) = Str.ofString "0" := by decide +kernel
        rw [this]
      have st := rd_step V (N := N + 1) (q := 0) (k := 0) ⟨by decide +kernel, by decide +kernel⟩ (by decide) (M := padL [] 0) (M' := padL [] 0) (x0 := some (.str (showS []), false)) (x4 := none) (x5 := none) (x6 := none) rfl
      refine ⟨some (.bl (decide ((0 : Rat) < 0)), false), some (.lst ([Str.ofString "0"].map Val.str), false), some (nv (absR 0), false), some (.int ((0 : Nat) : Int), false), ?_⟩
      rw [t0] at st
      exact forL_cons (env1 := [some (.str (showS []), false), some (lv (padL [] 0), true), some (.bl (decide ((0 : Rat) < 0)), false), some (.lst ([Str.ofString "0"].map Val.str), false), none, none, none]) rfl st
    · rw [if_neg e, grp_F]
      exact rd_loop V (N := N + 1) h h13 l.length 0 none none none none (by omega)
  have it : itemsOf (.lst ((Gs l).map gV)) = .ok ((Gs l).map gV) := rfl
  rw [callF_s V.f115 rfl, show fd_read_curve.body = [.ifs (.not (.isi (.bor 0) [(.ty "str")])) [.rse 7] [], .set 1 (.bin .mul (.lst [(.cst (.tup [(.int 0), (.int 1)]))]) (.bin .add (.cst (.int 12)) (.cst (.int 1))))] ++ [.for (.tup [2, 3]) (.val (.call 114 [(.nm 0)])) rdB, .set 6 (.call 8 [(.nm 1)]), .ifs (.cmp .ne (.call 111 [(.nm 6)]) (.bor 0)) [.rse 7] [], .ret (.nm 6)] from rfl, show startE fd_read_curve.nl [.str (showS l)] = [some (.str (showS l), false), none, none, none, none, none, none] from rfl, ss_app, e0, thn_nx]
  have is2 : isLst (.lst ((Gs l).map gV)) = true := rfl
  clear e0 tl h h13 et so
  generalize (Gs l).map gV = gs at *
  generalize Val.lst gs = GL at *
  generalize padL l 0 = P0 at *
  generalize padL l l.length = P1 at *
  generalize showS l = s at *
  walk_at "evh"
end
end Tx
end
end G
set_option linter.all false
set_option maxHeartbeats 2000000
set_option maxRecDepth 10000
namespace G.K57
open PySem G G.Tx
local macro_rules | `(tactic| walk_at "ev") => `(tactic| simp only [vl_nm, vl_bor, vl_cst, vl_bin, vl_neg, vl_cmp, vl_isn, vl_chn, vl_inn, vl_and, vl_or, vl_not, vl_ifx, vl_ix, vl_slc, vl_rev, vl_tup, vl_lst, vl_call, vl_cal, vl_dl, vl_get, vl_cax, vl_fnv, vl_blt, vl_isi, vl_ls, vl_sm, vl_jn, vl_pt, vl_sp, vl_lc, ev_nm, ev_cst, ev_bin, ev_neg, ev_cmp, ev_isn, ev_chn, ev_inn, ev_and, ev_or, ev_not, ev_ifx, ev_ix, ev_slc, ev_rev, ev_tup, ev_lst, ev_call, ev_cal, ev_dl, ev_get, ev_cax, ev_fnv, ev_blt, ev_isi, ev_ls, ev_smb, ev_jn, ev_pt, ev_sp, ev_lc, evEs_nil, evEs_cons, evAs_nil, evAs_cons, evO_none, evO_some, evC_none, evC_some, evIt_val, evIt_rng1, evIt_rng2, evIt_rvd, evIt_zip, evT_vl, andR_t, andR_f, orR_f, orR_t, ifxR_t, ifxR_f, chnR_t, chnR_f, ss_nil', ss_cons', thn_nx, thn_ret, thn_exc, thn_bad, s_set', set_ok, set_exc, s_unp', unp_ok, s_ifs', if_t, if_f, s_for', for_ok, s_whl', s_ret', s_retn', s_pass', s_rse', s_exp', s_try', try_nx, try_ret, try_exc, s_par', s_par3', s_six', s_dnew', s_dput', s_kput', ownK_s, ownKS_dk, guard_dct, ownD_s, ownDS_dct, dputO_ok, FV_int, s_app', s_pop', s_popu', s_popi', s_rev', s_ins', s_clr', rO_ok, rO_exc, ret_nm, ret_bor, ret_cst, ret_bin, ret_neg, ret_cmp, ret_isn, ret_chn, ret_inn, ret_and, ret_or, ret_not, ret_ifx, ret_ix, ret_slc, ret_rev, ret_tup, ret_lst, ret_call, ret_cal, ret_dl, ret_get, ret_cax, ret_blt, ret_isi, ret_ls, ret_sm, ret_jn, ret_pt, ret_sp, ret_lc, fin_nx, fin_ret, fin_exc, b_add, b_sub, b_mul, b_fdiv, b_mod, p11, p12, p30, p42, p57, p59, b_addL, b_addS, b_addT, b_mulL, c_lt, c_le, c_gt, c_ge, c_is, c_isnt, truth_bl, toI_int, toB_bl, items_lst, itemsR_lst, itemsR_tup, items_tup, len_lst, len_tup, len_scr, abs_int, int_int, int_bl, list_lst, list_tup, list_scr, tuple_lst, tuple_tup, max_int, min_int, ix_p0, ix_p1, c_eqI, c_neI, startE, frzE, frzI, frzAll, frz, kept, keptL, keptO, keptI, put, look, lookF, ownL_s, ownS_lst, evCall, lent, borI, bind_one, bind_tup, putAll, isLst_int, isLst_bl, isLst_str, isLst_tup, isLst_non, isLst_scr, isLst_exc, isLst_lst, isNon_int, isNon_bl, isNon_str, isNon_tup, isNon_non, isNon_scr, isNon_exc, isNon_lst, R.bind_ok, R.bind_exc, R.map_ok, R.map_exc, List.map_cons, List.map_nil, List.length_cons, List.length_nil, List.replicate, List.cons_append, List.nil_append, List.append_nil, List.getElem?_cons_zero, List.getElem?_cons_succ, List.set_cons_zero, List.set_cons_succ, Bool.false_and, Bool.true_and, Bool.and_true, Bool.and_false, Bool.or_false, Bool.false_or, Bool.or_true, Bool.true_or, Bool.not_true, Bool.not_false, decide_true, decide_false, if_true, if_false, ite_true, ite_false, reduceCtorEq, reduceIte, Nat.reduceAdd, Nat.reduceSub, Nat.reduceMul, Nat.reduceEqDiff, Int.reduceEq, Int.reduceLT, Int.reduceLE, Int.reduceNe, Int.reduceNeg, Int.reduceAdd, Int.reduceMul, Int.reduceSub, Nat.reduceLT, Nat.reduceLeDiff, Int.reduceGT, Int.reduceGE, is_tup_tuple, is_tup_list, is_tup_int, is_tup_bool, is_tup_str, is_lst_tuple, is_lst_list, is_lst_int, is_lst_bool, is_lst_str, is_int_tuple, is_int_list, is_int_int, is_int_bool, is_int_str, is_bl_tuple, is_bl_list, is_bl_int, is_bl_bool, is_bl_str, is_str_tuple, is_str_list, is_str_int, is_str_bool, is_str_str, is_non_tuple, is_non_list, is_non_int, is_non_bool, is_non_str, forS_ok, forB_nx, forB_ret, forL_nil, lc_nil, Int.cast_ofNat_Int, lc_cons, vlE_d, lenOk0, lenOk1, lenOk2, lenOk3, wipe1, wipe2, R.noexc_ok, decide_eq_true_eq, eq_self, ix_nv0, ix_nv1, is_nv_tuple, is_cv_tuple, is_lv_list, is_lv_tuple, is_cv_list, isLst_nv, isLst_cv, isLst_lv, isNon_nv, isNon_cv, isNon_lv, bind_nv, items_cv, itemsR_cv, itemsR_lv, items_lv, len_cv, len_lv, list_cv, list_lv, tuple_cv, tuple_lv, c_eqN, c_neN, c_eqC, c_neC, c_eqL, c_neL, nv01, nv11, cv_nil, cv_one, rev_lv, rev_cv, lv_one, lv_map, cv_map, lenOk_map, List.length_map, ownS_lv, back_bl, back_int, back_nv, back_cv, back_lv, c_eqB, c_neB])
local macro_rules | `(tactic| walk_at "evh") => `(tactic| simp only [vl_nm, vl_bor, vl_cst, vl_bin, vl_neg, vl_cmp, vl_isn, vl_chn, vl_inn, vl_and, vl_or, vl_not, vl_ifx, vl_ix, vl_slc, vl_rev, vl_tup, vl_lst, vl_call, vl_cal, vl_dl, vl_get, vl_cax, vl_fnv, vl_blt, vl_isi, vl_ls, vl_sm, vl_jn, vl_pt, vl_sp, vl_lc, ev_nm, ev_cst, ev_bin, ev_neg, ev_cmp, ev_isn, ev_chn, ev_inn, ev_and, ev_or, ev_not, ev_ifx, ev_ix, ev_slc, ev_rev, ev_tup, ev_lst, ev_call, ev_cal, ev_dl, ev_get, ev_cax, ev_fnv, ev_blt, ev_isi, ev_ls, ev_smb, ev_jn, ev_pt, ev_sp, ev_lc, evEs_nil, evEs_cons, evAs_nil, evAs_cons, evO_none, evO_some, evC_none, evC_some, evIt_val, evIt_rng1, evIt_rng2, evIt_rvd, evIt_zip, evT_vl, andR_t, andR_f, orR_f, orR_t, ifxR_t, ifxR_f, chnR_t, chnR_f, ss_nil', ss_cons', thn_nx, thn_ret, thn_exc, thn_bad, s_set', set_ok, set_exc, s_unp', unp_ok, s_ifs', if_t, if_f, s_for', for_ok, s_whl', s_ret', s_retn', s_pass', s_rse', s_exp', s_try', try_nx, try_ret, try_exc, s_par', s_par3', s_six', s_dnew', s_dput', s_kput', ownK_s, ownKS_dk, guard_dct, ownD_s, ownDS_dct, dputO_ok, FV_int, s_app', s_pop', s_popu', s_popi', s_rev', s_ins', s_clr', rO_ok, rO_exc, ret_nm, ret_bor, ret_cst, ret_bin, ret_neg, ret_cmp, ret_isn, ret_chn, ret_inn, ret_and, ret_or, ret_not, ret_ifx, ret_ix, ret_slc, ret_rev, ret_tup, ret_lst, ret_call, ret_cal, ret_dl, ret_get, ret_cax, ret_blt, ret_isi, ret_ls, ret_sm, ret_jn, ret_pt, ret_sp, ret_lc, fin_nx, fin_ret, fin_exc, b_add, b_sub, b_mul, b_fdiv, b_mod, p11, p12, p30, p42, p57, p59, b_addL, b_addS, b_addT, b_mulL, c_lt, c_le, c_gt, c_ge, c_is, c_isnt, truth_bl, toI_int, toB_bl, items_lst, itemsR_lst, itemsR_tup, items_tup, len_lst, len_tup, len_scr, abs_int, int_int, int_bl, list_lst, list_tup, list_scr, tuple_lst, tuple_tup, max_int, min_int, ix_p0, ix_p1, c_eqI, c_neI, startE, frzE, frzI, frzAll, frz, kept, keptL, keptO, keptI, put, look, lookF, ownL_s, ownS_lst, evCall, lent, borI, bind_one, bind_tup, putAll, isLst_int, isLst_bl, isLst_str, isLst_tup, isLst_non, isLst_scr, isLst_exc, isLst_lst, isNon_int, isNon_bl, isNon_str, isNon_tup, isNon_non, isNon_scr, isNon_exc, isNon_lst, R.bind_ok, R.bind_exc, R.map_ok, R.map_exc, List.map_cons, List.map_nil, List.length_cons, List.length_nil, List.replicate, List.cons_append, List.nil_append, List.append_nil, List.getElem?_cons_zero, List.getElem?_cons_succ, List.set_cons_zero, List.set_cons_succ, Bool.false_and, Bool.true_and, Bool.and_true, Bool.and_false, Bool.or_false, Bool.false_or, Bool.or_true, Bool.true_or, Bool.not_true, Bool.not_false, decide_true, decide_false, if_true, if_false, ite_true, ite_false, reduceCtorEq, reduceIte, Nat.reduceAdd, Nat.reduceSub, Nat.reduceMul, Nat.reduceEqDiff, Int.reduceEq, Int.reduceLT, Int.reduceLE, Int.reduceNe, Int.reduceNeg, Int.reduceAdd, Int.reduceMul, Int.reduceSub, Nat.reduceLT, Nat.reduceLeDiff, Int.reduceGT, Int.reduceGE, is_tup_tuple, is_tup_list, is_tup_int, is_tup_bool, is_tup_str, is_lst_tuple, is_lst_list, is_lst_int, is_lst_bool, is_lst_str, is_int_tuple, is_int_list, is_int_int, is_int_bool, is_int_str, is_bl_tuple, is_bl_list, is_bl_int, is_bl_bool, is_bl_str, is_str_tuple, is_str_list, is_str_int, is_str_bool, is_str_str, is_non_tuple, is_non_list, is_non_int, is_non_bool, is_non_str, forS_ok, forB_nx, forB_ret, forL_nil, lc_nil, Int.cast_ofNat_Int, lc_cons, vlE_d, lenOk0, lenOk1, lenOk2, lenOk3, wipe1, wipe2, R.noexc_ok, decide_eq_true_eq, eq_self, ix_nv0, ix_nv1, is_nv_tuple, is_cv_tuple, is_lv_list, is_lv_tuple, is_cv_list, isLst_nv, isLst_cv, isLst_lv, isNon_nv, isNon_cv, isNon_lv, bind_nv, items_cv, itemsR_cv, itemsR_lv, items_lv, len_cv, len_lv, list_cv, list_lv, tuple_cv, tuple_lv, c_eqN, c_neN, c_eqC, c_neC, c_eqL, c_neL, nv01, nv11, cv_nil, cv_one, rev_lv, rev_cv, lv_one, lv_map, cv_map, lenOk_map, List.length_map, ownS_lv, back_bl, back_int, back_nv, back_cv, back_lv, c_eqB, c_neB, *])
def fd_law_number : FD := ⟨2, 7, [.set 2 (.call 122 [(.nm 0), (.nm 1)]), .set 3 (.bin .mod (.bor 2) (.cst (.int 6))), .ifs (.cmp .lt (.bor 3) (.cst (.int 2))) [.ret (.tup [(.cst (.int 0)), (.cst (.int 1))])] [], .ifs (.cmp .eq (.bor 3) (.cst (.int 2))) [.ret (.tup [(.ix (.lst [(.cst (.int 1)), (.neg (.cst (.int 1)))]) (.bin .mod (.bin .fdiv (.bor 2) (.cst (.int 6))) (.cst (.int 2)))), (.cst (.int 1))])] [], .set 4 (.bin .add (.bin .mod (.bin .fdiv (.bor 2) (.cst (.int 12))) (.cst (.int 9))) (.cst (.int 1))), .set 5 (.bin .add (.bin .mod (.bin .fdiv (.bor 2) (.cst (.int 108))) (.cst (.int 5))) (.cst (.int 1))), .ifs (.cmp .eq (.bor 3) (.cst (.int 3))) [.set 4 (.bin .sub (.bin .sub (.bin .pow (.cst (.int 10)) (.cst (.int 12))) (.cst (.int 1))) (.call 122 [(.nm 0), (.bin .add (.bor 1) (.cst (.int 50)))])), .set 5 (.bin .sub (.bin .sub (.bin .pow (.cst (.int 10)) (.cst (.int 12))) (.cst (.int 1))) (.bin .mul (.call 122 [(.nm 0), (.bin .add (.bor 1) (.cst (.int 70)))]) (.ix (.lst [(.cst (.int 0)), (.cst (.int 1))]) (.bin .mod (.bin .fdiv (.bor 2) (.cst (.int 600))) (.cst (.int 2))))))] [], .set 6 (.call 124 [(.nm 4), (.nm 5)]), .ret (.tup [(.bin .mul (.ix (.lst [(.cst (.int 1)), (.neg (.cst (.int 1)))]) (.bin .mod (.bin .fdiv (.bor 2) (.cst (.int 6))) (.cst (.int 2)))) (.bin .fdiv (.bor 4) (.bor 6))), (.bin .fdiv (.bor 5) (.bor 6))])]⟩
def fd_law_term : FD := ⟨2, 4, [.set 2 (.blt .str [(.blt .abs [(.ix (.bor 0) (.cst (.int 0)))])]), .ifs (.cmp .gt (.ix (.bor 0) (.cst (.int 1))) (.cst (.int 1))) [.set 2 (.bin .add (.bin .add (.bor 2) (.cst (.str "/"))) (.blt .str [(.ix (.bor 0) (.cst (.int 1)))]))] [], .ifs (.cmp .eq (.bor 1) (.cst (.int 0))) [.ret (.nm 2)] [], .set 3 (.ix (.lst [(.cst (.str "x")), (.bin .add (.cst (.str "x^")) (.blt .str [(.bor 1)]))]) (.blt .int [(.cmp .gt (.bor 1) (.cst (.int 1)))])), .ifs (.cmp .eq (.bor 2) (.cst (.str "1"))) [.ret (.nm 3)] [], .ret (.bin .add (.bin .add (.bor 2) (.cst (.str " "))) (.bor 3))]⟩
def fd_law_text : FD := ⟨1, 4, [.set 1 (.cst (.str "")), .for (.one 2) (.rng1 (.blt .len [(.bor 0)])) [.set 3 (.blt .int [(.cmp .lt (.ix (.ix (.bor 0) (.bor 2)) (.cst (.int 0))) (.cst (.int 0)))]), .ifs (.and (.cmp .ne (.ix (.ix (.bor 0) (.bor 2)) (.cst (.int 0))) (.cst (.int 0))) (.cmp .eq (.bor 1) (.cst (.str "")))) [.set 1 (.bin .add (.ix (.lst [(.cst (.str "")), (.cst (.str "-"))]) (.bor 3)) (.call 236 [(.ix (.bor 0) (.bor 2)), (.nm 2)]))] [.ifs (.cmp .ne (.ix (.ix (.bor 0) (.bor 2)) (.cst (.int 0))) (.cst (.int 0))) [.set 1 (.bin .add (.bin .add (.bor 1) (.ix (.lst [(.cst (.str " + ")), (.cst (.str " - "))]) (.bor 3))) (.call 236 [(.ix (.bor 0) (.bor 2)), (.nm 2)]))] []]], .ifs (.cmp .eq (.bor 1) (.cst (.str ""))) [.ret (.cst (.str "0"))] [], .ret (.nm 1)]⟩
def fd_law_curve : FD := ⟨2, 4, [.set 2 (.lc (.one 3) (.rng1 (.bin .mod (.call 122 [(.nm 0), (.bin .add (.bor 1) (.cst (.int 30)))]) (.cst (.int 14)))) none (.call 129 [(.nm 0), (.bin .add (.bor 1) (.bor 3))])), .ifs (.and (.cmp .gt (.blt .len [(.bor 2)]) (.cst (.int 0))) (.cmp .eq (.bin .mod (.call 122 [(.nm 0), (.bin .add (.bor 1) (.cst (.int 31)))]) (.cst (.int 5))) (.cst (.int 0)))) [.set 2 (.bin .add (.bin .mul (.lst [(.tup [(.cst (.int 0)), (.cst (.int 1))])]) (.bin .sub (.blt .len [(.bor 2)]) (.cst (.int 1)))) (.slc (.bor 2) (some (.neg (.cst (.int 1)))) none))] [], .whl (.and (.cmp .ne (.bor 2) (.lst [])) (.or (.cmp .eq (.ix (.ix (.bor 2) (.neg (.cst (.int 1)))) (.cst (.int 0))) (.cst (.int 0))) (.cmp .gt (.blt .len [(.call 232 [(.bor 2)])]) (.cst (.int 400))))) [.pop 2], .ret (.blt .tuple [(.bor 2)])]⟩
def fd_law_right : FD := ⟨1, 3, [.set 1 (.call 115 [(.call 232 [(.bor 0)])]), .ifs (.or (.not (.isi (.bor 1) [(.ty "tuple")])) (.cmp .ne (.bor 1) (.bor 0))) [.ret (.cst (.bl false))] [], .for (.one 2) (.val (.nm 1)) [.ifs (.or (.not (.isi (.bor 2) [(.ty "tuple")])) (.or (.isi (.ix (.bor 2) (.cst (.int 0))) [(.ty "bool")]) (.isi (.ix (.bor 2) (.cst (.int 1))) [(.ty "bool")]))) [.ret (.cst (.bl false))] []], .ret (.cst (.bl true))]⟩
def fd_law : FD := ⟨1, 3, [.set 1 (.call 136 [(.nm 0), (.cst (.int 100))]), .set 2 (.call 136 [(.nm 0), (.cst (.int 300))]), .ret (.and (.call 133 [(.nm 1)]) (.and (.call 133 [(.nm 2)]) (.and (.call 133 [(.nm 1)]) (.cmp .eq (.call 115 [(.cst (.str "0"))]) (.tup [])))))]⟩
def FT : Nat → Option FD := fun k => ([(0, fd_divisor_of), (3, fd_sign), (8, fd_without_noughts), (105, fd_show_number), (109, fd_power_shown), (110, fd_term_shown), (111, fd_show_curve), (106, fd_whole_read), (107, fd_size_read), (112, fd_power_read), (113, fd_term_read), (114, fd_terms_of), (115, fd_read_curve), (122, fd_law_mixed), (124, fd_law_divisor), (129, fd_law_number), (236, fd_law_term), (232, fd_law_text), (136, fd_law_curve), (133, fd_law_right), (127, fd_law)] : List (Nat × FD)).lookup k
theorem bd : BD FT := ⟨⟨rfl, rfl, rfl, rfl, rfl⟩, ⟨rfl, rfl, rfl, rfl, rfl⟩, rfl, rfl, rfl⟩
theorem f122 : FT 122 = some fd_law_mixed := rfl
theorem f124 : FT 124 = some fd_law_divisor := rfl
theorem f129 : FT 129 = some fd_law_number := rfl
theorem f236 : FT 236 = some fd_law_term := rfl
theorem f232 : FT 232 = some fd_law_text := rfl
theorem f136 : FT 136 = some fd_law_curve := rfl
theorem f133 : FT 133 = some fd_law_right := rfl
theorem f127 : FT 127 = some fd_law := rfl
variable {ns : List Int} {N : Nat}
def nuA : List S := [.set 2 (.call 122 [(.nm 0), (.nm 1)]), .set 3 (.bin .mod (.bor 2) (.cst (.int 6))), .ifs (.cmp .lt (.bor 3) (.cst (.int 2))) [.ret (.tup [(.cst (.int 0)), (.cst (.int 1))])] [], .ifs (.cmp .eq (.bor 3) (.cst (.int 2))) [.ret (.tup [(.ix (.lst [(.cst (.int 1)), (.neg (.cst (.int 1)))]) (.bin .mod (.bin .fdiv (.bor 2) (.cst (.int 6))) (.cst (.int 2)))), (.cst (.int 1))])] []]
def nuB : List S := [.set 4 (.bin .add (.bin .mod (.bin .fdiv (.bor 2) (.cst (.int 12))) (.cst (.int 9))) (.cst (.int 1))), .set 5 (.bin .add (.bin .mod (.bin .fdiv (.bor 2) (.cst (.int 108))) (.cst (.int 5))) (.cst (.int 1)))]
def nuC : List S := [.ifs (.cmp .eq (.bor 3) (.cst (.int 3))) [.set 4 (.bin .sub (.bin .sub (.bin .pow (.cst (.int 10)) (.cst (.int 12))) (.cst (.int 1))) (.call 122 [(.nm 0), (.bin .add (.bor 1) (.cst (.int 50)))])), .set 5 (.bin .sub (.bin .sub (.bin .pow (.cst (.int 10)) (.cst (.int 12))) (.cst (.int 1))) (.bin .mul (.call 122 [(.nm 0), (.bin .add (.bor 1) (.cst (.int 70)))]) (.ix (.lst [(.cst (.int 0)), (.cst (.int 1))]) (.bin .mod (.bin .fdiv (.bor 2) (.cst (.int 600))) (.cst (.int 2))))))] []]
def nuD : List S := [.set 6 (.call 124 [(.nm 4), (.nm 5)]), .ret (.tup [(.bin .mul (.ix (.lst [(.cst (.int 1)), (.neg (.cst (.int 1)))]) (.bin .mod (.bin .fdiv (.bor 2) (.cst (.int 6))) (.cst (.int 2)))) (.bin .fdiv (.bor 4) (.bor 6))), (.bin .fdiv (.bor 5) (.bor 6))])]
theorem nfit : fd_law_number.body = nuA ++ (nuB ++ (nuC ++ nuD)) := rfl
theorem number {a : Int} (a0 : 0 ≤ a) (a1 : a ≤ 1000) : ∃ q, callF FT (N + 2) 129 [.scr ns, .int a] = .ok (nv q, false) ∧ S12 q := by
  have c1 : callF FT (N + 1) 122 [.scr ns, .int a] = _ := callF_mixed f122 (n := N) (ns := ns) a0 (by omega)
  have c2 : callF FT (N + 1) 122 [.scr ns, .int (a + 50)] = _ := callF_mixed f122 (n := N) (ns := ns) (k := a + 50) (by omega) (by omega)
  have c70 : callF FT (N + 1) 122 [.scr ns, .int (a + 70)] = _ := callF_mixed f122 (n := N) (ns := ns) (k := a + 70) (by omega) (by omega)
  have b70 := mx_bd ns (a + 70)
  have b1 := mx_bd ns a
  have b2 := mx_bd ns (a + 50)
  generalize mx ns a = c at *
  generalize mx ns (a + 50) = c' at *
  generalize mx ns (a + 70) = c7 at *
  have w6 := fmod_bd c (b := 6) (by decide)
  have s2 := fmod_bd (c.fdiv 6) (b := 2) (by decide)
  obtain ⟨s, ix, hs⟩ : ∃ s : Int, evIx (.lst [.int 1, .int (-1)]) (.int ((c.fdiv 6).fmod 2)) = .ok (.int s) ∧ (s = 1 ∨ s = -1) := by
    have : (c.fdiv 6).fmod 2 = 0 ∨ (c.fdiv 6).fmod 2 = 1 := by omega
    rcases this with h | h <;> rw [h]
    · exact ⟨1, rfl, .inl rfl⟩
    · exact ⟨-1, rfl, .inr rfl⟩
  have sz : ∀ {q : Rat}, q.num.natAbs < 10 ^ 12 → q.den < 10 ^ 12 → S12 q := fun h g => ⟨h, g⟩
  rw [callF_s f129 rfl, nfit, show startE fd_law_number.nl [.scr ns, .int a] = [some (.scr ns, false), some (.int a, false), none, none, none, none, none] from rfl, ss_app]
  by_cases h2 : c.fmod 6 < 2
  · refine ⟨0, ?_, by decide +kernel, by decide +kernel⟩
    have lt := eq_true h2
    have e : evSs (callF FT (N + 1)) nuA [some (.scr ns, false), some (.int a, false), none, none, none, none, none] = .ret (nv 0) false := by
      have z0 : Val.tup [.int 0, .int 1] = nv 0 := rfl
      unfold nuA
      clear ix hs w6 s2 b1 b2
      walk_at "evh"
    rw [e]; rfl
  · have lt := eq_false h2
    by_cases h3 : c.fmod 6 = 2
    · obtain ⟨q, hq, zq⟩ : ∃ q : Rat, Val.tup [.int s, .int 1] = nv q ∧ S12 q := by
        rcases hs with rfl | rfl
        · exact ⟨1, rfl, by decide +kernel, by decide +kernel⟩
        · exact ⟨-1, rfl, by decide +kernel, by decide +kernel⟩
      refine ⟨q, ?_, zq⟩
      have e : evSs (callF FT (N + 1)) nuA [some (.scr ns, false), some (.int a, false), none, none, none, none, none] = .ret (nv q) false := by
        unfold nuA
        clear zq hs w6 s2 b1 b2
        have q3 := eq_true h3
        walk_at "evh"
      rw [e]; rfl
    · have q3 := eq_false h3
      have e : evSs (callF FT (N + 1)) nuA [some (.scr ns, false), some (.int a, false), none, none, none, none, none] = .nx [some (.scr ns, false), some (.int a, false), some (.int c, false), some (.int (c.fmod 6), false), none, none, none] := by
        unfold nuA
        clear hs w6 s2 b1 b2 ix
        walk_at "evh"
      rw [e, thn_nx, ss_app]
      have t9 := fmod_bd (c.fdiv 12) (b := 9) (by decide)
      have t5 := fmod_bd (c.fdiv 108) (b := 5) (by decide)
      have e2 : evSs (callF FT (N + 1)) nuB [some (.scr ns, false), some (.int a, false), some (.int c, false), some (.int (c.fmod 6), false), none, none, none] = .nx [some (.scr ns, false), some (.int a, false), some (.int c, false), some (.int (c.fmod 6), false), some (.int ((c.fdiv 12).fmod 9 + 1), false), some (.int ((c.fdiv 108).fmod 5 + 1), false), none] := by
        unfold nuB
        clear hs w6 s2 b1 b2 ix e
        walk_at "evh"
      rw [e2, thn_nx, ss_app]
      obtain ⟨t, b, t0, t1, bp, bb, e3⟩ : ∃ t b : Int, 0 ≤ t ∧ t < 10 ^ 12 ∧ 0 < b ∧ b < 10 ^ 12 ∧ evSs (callF FT (N + 1)) nuC [some (.scr ns, false), some (.int a, false), some (.int c, false), some (.int (c.fmod 6), false), some (.int ((c.fdiv 12).fmod 9 + 1), false), some (.int ((c.fdiv 108).fmod 5 + 1), false), none] = .nx [some (.scr ns, false), some (.int a, false), some (.int c, false), some (.int (c.fmod 6), false), some (.int t, false), some (.int b, false), none] := by
        have ub : 1 ≤ (c.fdiv 12).fmod 9 + 1 ∧ (c.fdiv 12).fmod 9 + 1 ≤ 9 := by omega
        have vb : 1 ≤ (c.fdiv 108).fmod 5 + 1 ∧ (c.fdiv 108).fmod 5 + 1 ≤ 5 := by omega
        generalize (c.fdiv 12).fmod 9 + 1 = u at *
        generalize (c.fdiv 108).fmod 5 + 1 = v at *
        have pw : evBin .pow (.int 10) (.int 12) = .ok (.int 1000000000000) := rfl
        have d2 := fmod_bd (c.fdiv 600) (b := 2) (by decide)
        obtain ⟨e, ie, he⟩ : ∃ e : Int, evIx (.lst [.int 0, .int 1]) (.int ((c.fdiv 600).fmod 2)) = .ok (.int e) ∧ (e = 0 ∨ e = 1) := by
          have : (c.fdiv 600).fmod 2 = 0 ∨ (c.fdiv 600).fmod 2 = 1 := by omega
          rcases this with h | h <;> rw [h]
          · exact ⟨0, rfl, .inl rfl⟩
          · exact ⟨1, rfl, .inr rfl⟩
        have mo : mulOk c7 e = true := mul_small (m := 33) (n := 1) (natAbs_lt_pow (by omega) (by omega)) (by rcases he with rfl | rfl <;> decide) (by decide)
        have ce : 0 ≤ c7 * e ∧ c7 * e ≤ 2147483647 := by rcases he with rfl | rfl <;> omega
        by_cases h : c.fmod 6 = 3
        · refine ⟨1000000000000 - 1 - c', 1000000000000 - 1 - c7 * e, by omega, by omega, by omega, by omega, ?_⟩
          have q4 := eq_true h
          unfold nuC
          clear hs w6 s2 b1 b2 ix e2 h t9 t5 b70 d2 he ub vb ce
          walk_at "evh"
        · refine ⟨u, v, by omega, by omega, by omega, by omega, ?_⟩
          have q4 := eq_false h
          unfold nuC
          clear hs w6 s2 b1 b2 ix e2 h t9 t5 b70 d2 he ub vb ce
          walk_at "evh"
      rw [e3, thn_nx]
      have c4 : callF FT (N + 1) 124 [.int t, .int b] = _ := callF_ldiv f124 (n := N) (a := t) (b := b)
      have dn := divInt_num (a := t) bp
      have dd := divInt_den (a := t) bp
      have g0 : ¬ ((Int.gcd t b : Nat) : Int) = 0 := by have := gcd_pos (a := t) (b := b) (by omega); omega
      have gp : 1 ≤ ((Int.gcd t b : Nat) : Int) := by omega
      have hr : (Rat.divInt t b).num.natAbs < 10 ^ 12 ∧ (Rat.divInt t b).den < 10 ^ 12 := by
        have n0 : 0 ≤ t.fdiv (Int.gcd t b) := Int.fdiv_nonneg t0 (by omega)
        have n1 : t.fdiv (Int.gcd t b) ≤ t := by
          rw [Int.fdiv_eq_ediv_of_nonneg _ (by omega)]; exact Int.ediv_le_self _ t0
        have m1 : b.fdiv (Int.gcd t b) ≤ b := by
          rw [Int.fdiv_eq_ediv_of_nonneg _ (by omega)]; exact Int.ediv_le_self _ (by omega)
        constructor
        · rw [dn]; omega
        · have : ((Rat.divInt t b).den : Int) ≤ b := by rw [dd]; exact m1
          omega
      obtain ⟨q, hq, zq⟩ : ∃ q : Rat, Val.tup [.int (s * t.fdiv (Int.gcd t b)), .int (b.fdiv (Int.gcd t b))] = nv q ∧ S12 q := by
        rw [← dn, ← dd]
        generalize Rat.divInt t b = r at *
        have u1 := hr.1
        have u2 := hr.2
        rcases hs with rfl | rfl
        · exact ⟨r, by rw [Int.one_mul]; rfl, u1, u2⟩
        · exact ⟨-r, by show _ = Val.tup [.int (-r).num, .int ((-r).den : Int)]; rw [Rat.neg_num, Rat.neg_den, Int.neg_mul, Int.one_mul], by rw [Rat.neg_num, Int.natAbs_neg]; exact u1, by rw [Rat.neg_den]; exact u2⟩
      refine ⟨q, ?_, zq⟩
      have mo : mulOk s (t.fdiv (Int.gcd t b)) = true := mul_small (m := 1) (n := 130) (by rcases hs with rfl | rfl <;> decide) (by rw [← dn]; exact Nat.lt_trans hr.1 (by decide +kernel)) (by decide)
      unfold nuD
      clear hs w6 s2 b1 b2 e e2 e3 t9 t5 zq hr dn dd gp bp bb t0 t1
      generalize ((Int.gcd t b : Nat) : Int) = g at *
      walk_at "evh"
theorem abs_ev {q : Rat} : evBf .abs [.int q.num] = .ok (.int (q.num.natAbs : Int)) := by
  show R.ok (Val.int (if q.num < 0 then -q.num else q.num)) = _
  congr 2
  split <;> omega
theorem tl_1 : TL.tl (Str.ofString "1") = [49] := by decide +kernel
theorem numL_1 : TL.numL 1 = [49] := by decide +kernel
theorem numS_one {q : Rat} (h : 0 ≤ q) : numS q = Str.ofString "1" ↔ q = 1 := by
  constructor
  · intro e
    have e1 : TL.tl (numS q) = [49] := by rw [e, tl_1]
    rw [tl_num h] at e1
    by_cases hd : q.den = 1
    · rw [if_pos hd, List.append_nil, ← numL_1] at e1
      have := TL.numL_inj e1
      have hn := num_nat h
      exact Rat.ext (by rw [hn, this]; rfl) (by rw [hd]; rfl)
    · rw [if_neg hd] at e1
      cases e2 : TL.numL q.num.natAbs with
      | nil => exact absurd e2 (TL.numL_ne _)
      | cons c r => rw [e2] at e1; cases r <;> simp at e1
  · intro e
    rw [e]; decide +kernel
theorem w_lterm {q : Rat} {k : Nat} (z : Sz q) (h : k < 100) : callF FT (N + 1) 236 [nv q, .int (k : Int)] = .ok (.str (termS q k), false) := by
  have i0 : evIx (nv q) (.int 0) = .ok (.int q.num) := rfl
  have i1 : evIx (nv q) (.int 1) = .ok (.int (q.den : Int)) := rfl
  have ab := @abs_ev q
  have s1 := str_ev z.1
  have s2 := str_ev z.2
  have sk := str_ev (n := k) (Nat.lt_trans h (by decide +kernel))
  have nq := numS_sok absR_nn z.abs
  have a1 := add_ev (toS_sok (k := 40) (by decide) z.1) sl_sok (by decide)
  have a2 := add_ev ((toS_sok (k := 40) (by decide) z.1).app sl_sok) (toS_sok (k := 40) (by decide) z.2) (by decide)
  have hS : numS (absR q) = if q.den = 1 then toS (q.num.natAbs : Int) else toS (q.num.natAbs : Int) ++ Str.ofString "/" ++ toS (q.den : Int) := by
    unfold numS
    rw [absR_num.1, absR_num.2]
  have tA : evSs (callF FT N) [.set 2 (.blt .str [(.blt .abs [(.ix (.bor 0) (.cst (.int 0)))])]), .ifs (.cmp .gt (.ix (.bor 0) (.cst (.int 1))) (.cst (.int 1))) [.set 2 (.bin .add (.bin .add (.bor 2) (.cst (.str "/"))) (.blt .str [(.ix (.bor 0) (.cst (.int 1)))]))] []] [some (nv q, false), some (.int (k : Int), false), none, none] = .nx [some (nv q, false), some (.int (k : Int), false), some (.str (numS (absR q)), false), none] := by
    rw [hS]
    have dp := q.den_pos
    by_cases hd : q.den = 1
    · rw [if_pos hd]
      have g1 : ((q.den : Int) > 1) = False := eq_false (by omega)
      have g2 : ((1 : Int) < q.den) = False := eq_false (by omega)
      clear z hd dp hS nq sk h
      generalize nv q = Q at *
      generalize toS (q.num.natAbs : Int) = A at *
      generalize (q.num.natAbs : Int) = n at *
      generalize toS (q.den : Int) = B at *
      generalize (q.den : Int) = m at *
      generalize q.num = nu at *
      generalize (k : Int) = kk at *
      walk_at "evh"
    · rw [if_neg hd]
      have g1 : ((q.den : Int) > 1) = True := eq_true (by omega)
      have g2 : ((1 : Int) < q.den) = True := eq_true (by omega)
      clear z hd dp hS nq sk h
      generalize nv q = Q at *
      generalize toS (q.num.natAbs : Int) = A at *
      generalize (q.num.natAbs : Int) = n at *
      generalize toS (q.den : Int) = B at *
      generalize (q.den : Int) = m at *
      generalize q.num = nu at *
      generalize (k : Int) = kk at *
      walk_at "evh"
  have tk := toS_sok (k := 2) (n := k) (by decide) h
  have xk := (sok_of "x^").mono (show _ ≤ 2 by decide)
  have a3 := add_ev xk tk (by decide)
  have p := powS_sok h
  have a4 := add_ev nq sp_sok (by decide)
  have a5 := add_ev (nq.app sp_sok) p (by decide)
  have one : evCmp .eq (.str (numS (absR q))) (.str "1") = .ok (.bl (decide (absR q = 1))) := by
    rw [s_eq nq (sok_of "1")]
    congr 2
    by_cases e : absR q = 1
    · rw [decide_eq_true e, (numS_one absR_nn).mpr e]; exact beq_self_eq_true _
    · rw [decide_eq_false e]; exact beq_eq_false_iff_ne.mpr fun z => e ((numS_one absR_nn).mp z)
  rw [callF_s f236 rfl, show fd_law_term.body = [.set 2 (.blt .str [(.blt .abs [(.ix (.bor 0) (.cst (.int 0)))])]), .ifs (.cmp .gt (.ix (.bor 0) (.cst (.int 1))) (.cst (.int 1))) [.set 2 (.bin .add (.bin .add (.bor 2) (.cst (.str "/"))) (.blt .str [(.ix (.bor 0) (.cst (.int 1)))]))] []] ++ [.ifs (.cmp .eq (.bor 1) (.cst (.int 0))) [.ret (.nm 2)] [], .set 3 (.ix (.lst [(.cst (.str "x")), (.bin .add (.cst (.str "x^")) (.blt .str [(.bor 1)]))]) (.blt .int [(.cmp .gt (.bor 1) (.cst (.int 1)))])), .ifs (.cmp .eq (.bor 2) (.cst (.str "1"))) [.ret (.nm 3)] [], .ret (.bin .add (.bin .add (.bor 2) (.cst (.str " "))) (.bor 3))] from rfl, show startE fd_law_term.nl [nv q, .int (k : Int)] = [some (nv q, false), some (.int (k : Int), false), none, none] from rfl, ss_app, tA, thn_nx]
  unfold termS
  clear tA hS a1 a2 s1 s2 ab i0 i1
  by_cases h0 : k = 0
  · rw [if_pos h0]
    have d0 : ((k : Int) = 0) = True := eq_true (by omega)
    clear z h nq tk xk p a3 a4 a5 h0
    generalize numS (absR q) = S1 at *
    generalize (k : Int) = kk at *
    walk_at "evh"
  · rw [if_neg h0]
    have d0 : ((k : Int) = 0) = False := eq_false (by omega)
    have l0 : evIx (.lst [.str "x", .str (Str.ofString "x^" ++ toS (k : Int))]) (.int 0) = .ok (.str "x") := rfl
    have l1 : evIx (.lst [.str "x", .str (Str.ofString "x^" ++ toS (k : Int))]) (.int 1) = .ok (.str (Str.ofString "x^" ++ toS (k : Int))) := rfl
    have hpow : powS k = (if k = 1 then Str.ofString "x" else Str.ofString "x^" ++ toS (k : Int)) := by
      unfold powS
      rw [if_neg h0]
    rw [hpow] at a5 ⊢
    have fin2 : ∀ (x : Str), evBin .add (.str (numS (absR q) ++ Str.ofString " ")) (.str x) = .ok (.str (numS (absR q) ++ Str.ofString " " ++ x)) → ∀ kk : Int, (evSs (callF FT N) [.ifs (.cmp .eq (.bor 2) (.cst (.str "1"))) [.ret (.nm 3)] [], .ret (.bin .add (.bin .add (.bor 2) (.cst (.str " "))) (.bor 3))] [some (nv q, false), some (.int kk, false), some (.str (numS (absR q)), false), some (.str x, false)]) = .ret (.str (if absR q = 1 then x else numS (absR q) ++ Str.ofString " " ++ x)) false := fun x a5 kk => by
      clear z h nq tk xk p a3 hpow l0 l1 d0 h0 sk
      by_cases e : absR q = 1
      · rw [if_pos e]
        rw [decide_eq_true e] at one
        clear e
        generalize numS (absR q) = S1 at *
        walk_at "evh"
      · rw [if_neg e]
        rw [decide_eq_false e] at one
        clear e
        generalize numS (absR q) = S1 at *
        walk_at "evh"
    by_cases h1 : k = 1
    · rw [if_pos h1] at a5 ⊢
      have g1 : ((k : Int) > 1) = False := eq_false (by omega)
      have g2 : ((1 : Int) < k) = False := eq_false (by omega)
      have e3 : evSs (callF FT N) [.ifs (.cmp .eq (.bor 1) (.cst (.int 0))) [.ret (.nm 2)] [], .set 3 (.ix (.lst [(.cst (.str "x")), (.bin .add (.cst (.str "x^")) (.blt .str [(.bor 1)]))]) (.blt .int [(.cmp .gt (.bor 1) (.cst (.int 1)))]))] [some (nv q, false), some (.int (k : Int), false), some (.str (numS (absR q)), false), none] = .nx [some (nv q, false), some (.int (k : Int), false), some (.str (numS (absR q)), false), some (.str (Str.ofString "x"), false)] := by
        clear z h nq tk xk p a4 a5 hpow h0 h1 fin2 one
        generalize numS (absR q) = S1 at *
        generalize Str.ofString "x^" ++ toS (k : Int) = S3 at *
        generalize toS (k : Int) = S2 at *
        generalize (k : Int) = kk at *
        walk_at "evh"
      have := fin2 _ a5 (k : Int)
      rw [show ([.ifs (.cmp .eq (.bor 1) (.cst (.int 0))) [.ret (.nm 2)] [], .set 3 (.ix (.lst [(.cst (.str "x")), (.bin .add (.cst (.str "x^")) (.blt .str [(.bor 1)]))]) (.blt .int [(.cmp .gt (.bor 1) (.cst (.int 1)))])), .ifs (.cmp .eq (.bor 2) (.cst (.str "1"))) [.ret (.nm 3)] [], .ret (.bin .add (.bin .add (.bor 2) (.cst (.str " "))) (.bor 3))] : List S) = [.ifs (.cmp .eq (.bor 1) (.cst (.int 0))) [.ret (.nm 2)] [], .set 3 (.ix (.lst [(.cst (.str "x")), (.bin .add (.cst (.str "x^")) (.blt .str [(.bor 1)]))]) (.blt .int [(.cmp .gt (.bor 1) (.cst (.int 1)))]))] ++ [.ifs (.cmp .eq (.bor 2) (.cst (.str "1"))) [.ret (.nm 3)] [], .ret (.bin .add (.bin .add (.bor 2) (.cst (.str " "))) (.bor 3))] from rfl, ss_app, e3, thn_nx, this]
      rfl
    · rw [if_neg h1] at a5 ⊢
      have g1 : ((k : Int) > 1) = True := eq_true (by omega)
      have g2 : ((1 : Int) < k) = True := eq_true (by omega)
      have e3 : evSs (callF FT N) [.ifs (.cmp .eq (.bor 1) (.cst (.int 0))) [.ret (.nm 2)] [], .set 3 (.ix (.lst [(.cst (.str "x")), (.bin .add (.cst (.str "x^")) (.blt .str [(.bor 1)]))]) (.blt .int [(.cmp .gt (.bor 1) (.cst (.int 1)))]))] [some (nv q, false), some (.int (k : Int), false), some (.str (numS (absR q)), false), none] = .nx [some (nv q, false), some (.int (k : Int), false), some (.str (numS (absR q)), false), some (.str (Str.ofString "x^" ++ toS (k : Int)), false)] := by
        clear z h nq tk xk p a4 a5 hpow h0 h1 fin2 one
        generalize numS (absR q) = S1 at *
        generalize Str.ofString "x^" ++ toS (k : Int) = S3 at *
        generalize toS (k : Int) = S2 at *
        generalize (k : Int) = kk at *
        walk_at "evh"
      have := fin2 _ a5 (k : Int)
      rw [show ([.ifs (.cmp .eq (.bor 1) (.cst (.int 0))) [.ret (.nm 2)] [], .set 3 (.ix (.lst [(.cst (.str "x")), (.bin .add (.cst (.str "x^")) (.blt .str [(.bor 1)]))]) (.blt .int [(.cmp .gt (.bor 1) (.cst (.int 1)))])), .ifs (.cmp .eq (.bor 2) (.cst (.str "1"))) [.ret (.nm 3)] [], .ret (.bin .add (.bin .add (.bor 2) (.cst (.str " "))) (.bor 3))] : List S) = [.ifs (.cmp .eq (.bor 1) (.cst (.int 0))) [.ret (.nm 2)] [], .set 3 (.ix (.lst [(.cst (.str "x")), (.bin .add (.cst (.str "x^")) (.blt .str [(.bor 1)]))]) (.blt .int [(.cmp .gt (.bor 1) (.cst (.int 1)))]))] ++ [.ifs (.cmp .eq (.bor 2) (.cst (.str "1"))) [.ret (.nm 3)] [], .ret (.bin .add (.bin .add (.bor 2) (.cst (.str " "))) (.bor 3))] from rfl, ss_app, e3, thn_nx, this]
      rfl
def txL : List S := [.set 3 (.blt .int [(.cmp .lt (.ix (.ix (.bor 0) (.bor 2)) (.cst (.int 0))) (.cst (.int 0)))]), .ifs (.and (.cmp .ne (.ix (.ix (.bor 0) (.bor 2)) (.cst (.int 0))) (.cst (.int 0))) (.cmp .eq (.bor 1) (.cst (.str "")))) [.set 1 (.bin .add (.ix (.lst [(.cst (.str "")), (.cst (.str "-"))]) (.bor 3)) (.call 236 [(.ix (.bor 0) (.bor 2)), (.nm 2)]))] [.ifs (.cmp .ne (.ix (.ix (.bor 0) (.bor 2)) (.cst (.int 0))) (.cst (.int 0))) [.set 1 (.bin .add (.bin .add (.bor 1) (.ix (.lst [(.cst (.str " + ")), (.cst (.str " - "))]) (.bor 3))) (.call 236 [(.ix (.bor 0) (.bor 2)), (.nm 2)]))] []]]
theorem txfit : fd_law_text.body = .set 1 (.cst (.str "")) :: .for (.one 2) (.rng1 (.blt .len [(.bor 0)])) txL :: shE := rfl
theorem num_neg {q : Rat} : (q.num < 0) = (q < 0) := propext (by
  constructor
  · intro g
    rcases Decidable.em (q < 0) with w | w
    · exact w
    · have := Rat.num_nonneg.mpr (Rat.not_lt.mp w); omega
  · intro g
    rcases Decidable.em (q.num < 0) with w | w
    · exact w
    · have := Rat.num_nonneg.mp (show 0 ≤ q.num by omega); grind)
theorem tx_step {l : List Rat} {X : Val} (h : ∀ q ∈ l, Sz q) {k : Nat} (hk : k < l.length) (h13 : l.length ≤ 14) (ix : evIx X (.int (k : Int)) = .ok (nv (co l k))) {z3 : Option (Val × Bool)} : ∃ y3, evSs (callF FT (N + 2)) txL [some (X, false), some (.str (cat (termsT l k)), false), some (.int (k : Int), false), z3] = .nx [some (X, false), some (.str (cat (termsT l (k + 1))), false), some (.int (k : Int), false), y3] := by
  obtain ⟨h1, h2, h3, h4⟩ := terms_ok h k (by omega)
  have i0 : evIx (nv (co l k)) (.int 0) = .ok (.int (co l k).num) := rfl
  have ct : callF FT (N + 2) 236 [nv (co l k), .int (k : Int)] = _ := w_lterm (N := N + 1) (co_sz h k) (show k < 100 by omega)
  have ts := termS_sok (co_sz h k) (show k < 100 by omega)
  have nn := @num_neg (co l k)
  have qe : evCmp .eq (.str (cat (termsT l k))) (.str "") = .ok (.bl (decide (termsT l k = []))) := by
    rw [s_eq h3 ((sok_of "").mono (Nat.le_refl _)), of_empty]
    congr 2
    by_cases e : termsT l k = []
    · rw [decide_eq_true e, h4.mp e]; exact beq_self_eq_true _
    · rw [decide_eq_false e]
      exact beq_eq_false_iff_ne.mpr fun z => e (h4.mpr z)
  refine ⟨some (.int (if decide ((co l k).num < 0) = true then 1 else 0), false), ?_⟩
  unfold txL
  by_cases hz : co l k = 0
  · have et : termsT l (k + 1) = termsT l k := by rw [termsT]; exact if_pos hz
    rw [et]
    have n0 : (co l k).num = 0 := by rw [hz]; rfl
    have n1 : ((co l k).num < 0) = False := eq_false (by omega)
    rw [n0] at i0 n1 ⊢
    clear h h1 h2 h3 h4 ts et hz nn n0
    generalize cat (termsT l k) = A at *
    generalize co l k = q at *
    walk_at "evh"
  · have et : termsT l (k + 1) = termsT l k ++ [markS (termsT l k) (co l k) ++ termS (co l k) k] := by rw [termsT]; exact if_neg hz
    rw [et, cat_snoc]
    have n0 : ((co l k).num = 0) = False := eq_false fun z => hz (Rat.num_eq_zero.mp z)
    have mk := mark_sok (T := termsT l k) (q := co l k)
    by_cases e : termsT l k = []
    · rw [decide_eq_true e] at qe
      have ce : cat (termsT l k) = Str.empty := h4.mp e
      rw [ce, empty_app]
      rw [ce] at qe
      have a1 := add_ev mk ts (by decide)
      unfold markS at a1 ⊢
      rw [if_pos e] at a1 ⊢
      by_cases hn : co l k < 0
      · rw [if_pos hn] at a1 ⊢
        have s0 : ((co l k).num < 0) = True := nn.trans (eq_true hn)
        have im : evIx (.lst [.str "", .str "-"]) (.int 1) = .ok (.str "-") := rfl
        clear h h1 h2 h3 h4 ts et hz nn mk hn e ce
        generalize termS (co l k) k = B at *
        generalize (co l k).num = u at *
        generalize co l k = q at *
        walk_at "evh"
      · rw [if_neg hn] at a1 ⊢
        have s0 : ((co l k).num < 0) = False := nn.trans (eq_false hn)
        rw [← of_empty] at a1 ⊢
        have im : evIx (.lst [.str "", .str "-"]) (.int 0) = .ok (.str "") := rfl
        clear h h1 h2 h3 h4 ts et hz nn mk hn e ce
        rw [← of_empty] at qe
        generalize termS (co l k) k = B at *
        generalize (co l k).num = u at *
        generalize co l k = q at *
        walk_at "evh"
    · rw [decide_eq_false e] at qe
      have a1 := add_ev h3 mk (by omega)
      have a2 := add_ev (h3.app mk) ts (by omega)
      rw [← Str.append_assoc]
      unfold markS at a1 a2 ⊢
      rw [if_neg e] at a1 a2 ⊢
      by_cases hn : co l k < 0
      · rw [if_pos hn] at a1 a2 ⊢
        have s0 : ((co l k).num < 0) = True := nn.trans (eq_true hn)
        have im : evIx (.lst [.str " + ", .str " - "]) (.int 1) = .ok (.str " - ") := rfl
        clear h h1 h2 h3 h4 ts et hz nn mk hn e
        generalize cat (termsT l k) = A at *
        generalize termS (co l k) k = B at *
        generalize (co l k).num = u at *
        generalize co l k = q at *
        walk_at "evh"
      · rw [if_neg hn] at a1 a2 ⊢
        have s0 : ((co l k).num < 0) = False := nn.trans (eq_false hn)
        have im : evIx (.lst [.str " + ", .str " - "]) (.int 0) = .ok (.str " + ") := rfl
        clear h h1 h2 h3 h4 ts et hz nn mk hn e
        generalize cat (termsT l k) = A at *
        generalize termS (co l k) k = B at *
        generalize (co l k).num = u at *
        generalize co l k = q at *
        walk_at "evh"
theorem tx_loop {l : List Rat} {X : Val} (h : ∀ q ∈ l, Sz q) (h13 : l.length ≤ 14) (ix : ∀ k, k < l.length → evIx X (.int (k : Int)) = .ok (nv (co l k))) : ∀ (d k : Nat) (z2 z3 : Option (Val × Bool)), k + d = l.length → ∃ y2 y3, forL (.one 2) (fun env' => evSs (callF FT (N + 2)) txL env') (rngV k d) [some (X, false), some (.str (cat (termsT l k)), false), z2, z3] = .nx [some (X, false), some (.str (cat (termsT l l.length)), false), y2, y3]
  | 0, k, z2, z3, e => ⟨z2, z3, by rw [show k = l.length by omega]; rfl⟩
  | d + 1, k, z2, z3, e => by
    obtain ⟨y3, e1⟩ := tx_step (N := N) h (show k < l.length by omega) h13 (ix k (by omega)) (z3 := z3)
    obtain ⟨y2, y3', e2⟩ := tx_loop h h13 ix d (k + 1) (some (.int k, false)) y3 (by omega)
    refine ⟨y2, y3', ?_⟩
    rw [rngV_succ, show (k : Int) + 1 = ((k + 1 : Nat) : Int) by omega, ← e2]
    exact forL_cons (env1 := [some (X, false), some (.str (cat (termsT l k)), false), some (.int k, false), z3]) rfl e1
theorem w_text {l : List Rat} {X : Val} (hX : X = lv l ∨ X = cv l) (h : ∀ q ∈ l, Sz q) (h13 : l.length ≤ 14) : callF FT (N + 3) 232 [X] = .ok (.str (showS l), false) := by
  have ix : ∀ k, k < l.length → evIx X (.int (k : Int)) = .ok (nv (co l k)) := fun k hk => by
    rcases hX with rfl | rfl
    · exact ix_lvN rfl (co_get hk)
    · exact ix_cvN rfl (co_get hk)
  have ll : evBf .len [X] = .ok (.int l.length) := by
    rcases hX with rfl | rfl
    · exact len_lv
    · exact len_cv
  obtain ⟨y2, y3, eL⟩ := tx_loop (N := N) h h13 ix l.length 0 none none (by omega)
  obtain ⟨h1, h2, h3, h4⟩ := terms_ok h l.length h13
  have qe : evCmp .eq (.str (cat (termsT l l.length))) (.str "") = .ok (.bl (decide (termsT l l.length = []))) := by
    rw [s_eq h3 ((sok_of "").mono (Nat.le_refl _)), of_empty]
    congr 2
    by_cases e : termsT l l.length = []
    · rw [decide_eq_true e, h4.mp e]; exact beq_self_eq_true _
    · rw [decide_eq_false e]
      exact beq_eq_false_iff_ne.mpr fun z => e (h4.mpr z)
  rw [callF_s f232 rfl, txfit, show startE fd_law_text.nl [X] = [some (X, false), none, none, none] from rfl]
  have rk : rngOk (l.length : Int) = true := rng_ok (by omega)
  have et : (l.length : Int).toNat = l.length := Int.toNat_natCast _
  have eL : forL (.one 2) (fun env' => evSs (callF FT (N + 2)) txL env') (rngV 0 l.length) [some (X, false), some (.str Str.empty, false), none, none] = _ := eL
  rw [← of_empty] at eL
  unfold showS shE
  clear h h1 h2 h3 h4 hX ix
  by_cases e : termsT l l.length = []
  · rw [if_pos e]
    rw [decide_eq_true e] at qe
    clear e
    generalize cat (termsT l l.length) = A at *
    generalize (l.length : Int) = n at *
    generalize l.length = n' at *
    walk_at "evh"
  · rw [if_neg e]
    rw [decide_eq_false e] at qe
    clear e
    generalize cat (termsT l l.length) = A at *
    generalize (l.length : Int) = n at *
    generalize l.length = n' at *
    walk_at "evh"
def cvA : List S := [.set 2 (.lc (.one 3) (.rng1 (.bin .mod (.call 122 [(.nm 0), (.bin .add (.bor 1) (.cst (.int 30)))]) (.cst (.int 14)))) none (.call 129 [(.nm 0), (.bin .add (.bor 1) (.bor 3))]))]
def cvB : List S := [.ifs (.and (.cmp .gt (.blt .len [(.bor 2)]) (.cst (.int 0))) (.cmp .eq (.bin .mod (.call 122 [(.nm 0), (.bin .add (.bor 1) (.cst (.int 31)))]) (.cst (.int 5))) (.cst (.int 0)))) [.set 2 (.bin .add (.bin .mul (.lst [(.tup [(.cst (.int 0)), (.cst (.int 1))])]) (.bin .sub (.blt .len [(.bor 2)]) (.cst (.int 1)))) (.slc (.bor 2) (some (.neg (.cst (.int 1)))) none))] []]
def cvC : E := .and (.cmp .ne (.bor 2) (.lst [])) (.or (.cmp .eq (.ix (.ix (.bor 2) (.neg (.cst (.int 1)))) (.cst (.int 0))) (.cst (.int 0))) (.cmp .gt (.blt .len [(.call 232 [(.bor 2)])]) (.cst (.int 400))))
theorem cvfit : fd_law_curve.body = cvA ++ (cvB ++ [.whl cvC [.pop 2], .ret (.blt .tuple [(.bor 2)])]) := rfl
theorem cv_whl {x0 x1 x3 : Option (Val × Bool)} : ∀ (n : Nat) (l : List Rat), l.length ≤ n → l.length ≤ 13 → (∀ q ∈ l, S12 q) →
    ∃ m : List Rat, Trim m ∧ m.length ≤ 13 ∧ (∀ q ∈ m, S12 q) ∧ whlO (callF FT (N + 3)) cvC [.pop 2] [x0, x1, some (lv l, true), x3] = .nx [x0, x1, some (lv m, true), x3] := fun n l hl h13 hz => by
  have e2 : Val.lst [] = lv [] := rfl
  have bk : ∀ s : Str, backOk (.str s, false) = true := fun _ => rfl
  rcases List.eq_nil_or_concat l with rfl | ⟨t, a, rfl⟩
  · refine ⟨[], Trim.nil, by simp, fun q hq => absurd hq (by simp), ?_⟩
    have e1 : decide (([] : List Rat) = []) = true := rfl
    unfold cvC
    exact whlO_f (by walk_at "evh")
  · rw [List.concat_eq_append] at hl h13 hz ⊢
    have e0 : decide (t ++ [a] = []) = false := decide_eq_false (by simp)
    have e1 := ix_last (l := t) (q := a) (L := lv (t ++ [a])) (.inl rfl)
    have e4 : ((t ++ [a]).map nv).isEmpty = false := by cases t <;> rfl
    have e5 : ((t ++ [a]).map nv).dropLast = t.map nv := by rw [List.map_append]; simp
    have lt : (t ++ [a]).length = t.length + 1 := by simp
    have c232 : callF FT (N + 3) 232 [lv (t ++ [a])] = _ := w_text (N := N) (.inl rfl) (fun q hq => (hz q hq).sz) (by omega)
    have so := showS_sok (l := t ++ [a]) (fun q hq => (hz q hq).sz) (by omega)
    have ls : evBf .len [.str (showS (t ++ [a]))] = .ok (.int ((showS (t ++ [a])).length : Int)) := by
      show (if lenOk (showS (t ++ [a])).length = true then G.R.ok (Val.int ((showS (t ++ [a])).length : Int)) else .bad) = _
      rw [if_pos (lenOk_lit (by have := so.l; omega))]
    have pop : (a = 0 ∨ 400 < (showS (t ++ [a])).length) → ∃ m : List Rat, Trim m ∧ m.length ≤ 13 ∧ (∀ q ∈ m, S12 q) ∧ whlO (callF FT (N + 3)) cvC [.pop 2] [x0, x1, some (lv (t ++ [a]), true), x3] = .nx [x0, x1, some (lv m, true), x3] := fun hp => by
      cases n with
      | zero => omega
      | succ n =>
        obtain ⟨m, m1, m2, m3, m4⟩ := cv_whl (x0 := x0) (x1 := x1) (x3 := x3) n t (by omega) (by omega) fun q hq => hz q (List.mem_append_left _ hq)
        refine ⟨m, m1, m2, m3, ?_⟩
        rw [← m4]
        by_cases h : a = 0
        · have e3 : decide (a.num = 0) = true := decide_eq_true (num_zero.mpr h)
          clear h hl hp hz so lt h13 m1 m2 m3 m4 c232 ls
          unfold cvC
          exact whlO_t (by walk_at "evh") (by walk_at "evh")
        · have h4 := hp.resolve_left h
          have e3 : decide (a.num = 0) = false := decide_eq_false fun z => h (num_zero.mp z)
          have g1 : (((showS (t ++ [a])).length : Int) > 400) = True := eq_true (by omega)
          have g2 : ((400 : Int) < ((showS (t ++ [a])).length : Int)) = True := eq_true (by omega)
          clear h hl hp hz so lt h13 m1 m2 m3 m4 h4
          generalize ((showS (t ++ [a])).length : Int) = sl at *
          generalize showS (t ++ [a]) = st at *
          unfold cvC
          exact whlO_t (by walk_at "evh") (by walk_at "evh")
    by_cases h : a = 0
    · exact pop (.inl h)
    · by_cases h4 : 400 < (showS (t ++ [a])).length
      · exact pop (.inr h4)
      · refine ⟨t ++ [a], Trim.last h, h13, hz, ?_⟩
        have e3 : decide (a.num = 0) = false := decide_eq_false fun z => h (num_zero.mp z)
        have g1 : (((showS (t ++ [a])).length : Int) > 400) = False := eq_false (by omega)
        have g2 : ((400 : Int) < ((showS (t ++ [a])).length : Int)) = False := eq_false (by omega)
        clear h hl hz so lt h13 h4 pop
        generalize ((showS (t ++ [a])).length : Int) = sl at *
        generalize showS (t ++ [a]) = st at *
        unfold cvC
        exact whlO_f (by walk_at "evh")
theorem zero_list {m : Nat} (hm : m ≤ 13) : evBin .mul (.lst [.tup [.int 0, .int 1]]) (.int (m : Int)) = .ok (lv (List.replicate m 0)) := by
  show (if lenOk ([Val.tup [.int 0, .int 1]].length * (m : Int).toNat) && decide (-1000000 ≤ (m : Int) ∧ (m : Int) ≤ 1000000) then G.R.ok (Val.lst (List.replicate (m : Int).toNat [Val.tup [.int 0, .int 1]]).flatten) else .bad) = _
  rw [Int.toNat_natCast, lenOk_lit (by show 1 * m ≤ _; omega), decide_eq_true (by omega), if_pos (show (true && true) = true from rfl)]
  congr 2
  induction m with
  | zero => rfl
  | succ m ih =>
    rw [List.replicate_succ, List.replicate_succ, List.flatten_cons, ih (by omega)]
    rfl
theorem last_cut {t : List Rat} {a : Rat} : evSlc (some (-1)) none (lv (t ++ [a])) = .ok (lv [a]) := by
  show G.R.ok (Val.lst (cut ((t ++ [a]).map nv) (some (-1)) none)) = _
  congr 2
  unfold cut
  have e1 : HT.sIx ((t ++ [a]).map nv).length 0 (some (-1)) = t.length := by
    unfold HT.sIx
    rw [List.length_map, List.length_append]
    simp
    omega
  have e2 : HT.sIx ((t ++ [a]).map nv).length ((t ++ [a]).map nv).length none = t.length + 1 := by
    show ((t ++ [a]).map nv).length = _
    rw [List.length_map, List.length_append]; rfl
  rw [e1, e2, List.map_append, List.drop_append_of_le_length (by rw [List.length_map]; omega)]
  rw [show (t.map nv).drop t.length = [] from List.drop_of_length_le (by rw [List.length_map]; omega)]
  rw [show t.length + 1 - t.length = 1 by omega]
  rfl
theorem callF_curve {a : Int} (a0 : 0 ≤ a) (a1 : a ≤ 900) : ∃ l : List Rat, Trim l ∧ l.length ≤ 13 ∧ (∀ q ∈ l, S12 q) ∧ callF FT (N + 4) 136 [.scr ns, .int a] = .ok (cv l, false) := by
  have c30 : callF FT (N + 3) 122 [.scr ns, .int (a + 30)] = _ := callF_mixed f122 (n := N + 2) (ns := ns) (k := a + 30) (by omega) (by omega)
  have c31 : callF FT (N + 3) 122 [.scr ns, .int (a + 31)] = _ := callF_mixed f122 (n := N + 2) (ns := ns) (k := a + 31) (by omega) (by omega)
  generalize mx ns (a + 30) = c at *
  generalize mx ns (a + 31) = c' at *
  have u := fmod_bd c (b := 14) (by decide)
  have u5 := fmod_bd c' (b := 5) (by decide)
  obtain ⟨D, hD⟩ : ∃ D : Nat, c.fmod 14 = D := ⟨(c.fmod 14).toNat, by omega⟩
  obtain ⟨l, hl, hp, e⟩ := lcR_ex (cl := callF FT (N + 3)) (tg := .one 3) (env := [some (.scr ns, false), some (.int a, false), none, none]) (cond := none) (el := .call 129 [(.nm 0), (.bin .add (.bor 1) (.bor 3))]) (p := fun _ q => S12 q) (m := D) (lo := 0) (by omega) (fun j hj => by
    obtain ⟨q, e2, zq⟩ := number (N := N + 1) (ns := ns) (a := a + (0 + (j : Int))) (by omega) (by omega)
    replace e2 : callF FT (N + 3) 129 _ = _ := e2
    refine ⟨_, q, rfl, rfl, ?_, zq⟩
    clear zq u u5 hD c30 c31
    generalize (0 + (j : Int)) = jj at *
    walk_at "evh")
  have hz : ∀ q ∈ l, S12 q := fun q hq => by
    obtain ⟨i, hi⟩ := List.mem_iff_getElem?.mp hq
    exact hp i q hi
  have eA : evSs (callF FT (N + 3)) cvA [some (.scr ns, false), some (.int a, false), none, none] = .nx [some (.scr ns, false), some (.int a, false), some (lv l, true), none] := by
    have rk : rngOk (D : Int) = true := rng_ok (by omega)
    have et : (D : Int).toNat = D := Int.toNat_natCast _
    have hs : isLst (lv l) = true := rfl
    unfold cvA
    clear hz hp u u5 c31
    generalize lv l = L at *
    walk_at "evh"
  obtain ⟨l2, h2, hz2, eB⟩ : ∃ l2 : List Rat, l2.length ≤ 13 ∧ (∀ q ∈ l2, S12 q) ∧ evSs (callF FT (N + 3)) cvB [some (.scr ns, false), some (.int a, false), some (lv l, true), none] = .nx [some (.scr ns, false), some (.int a, false), some (lv l2, true), none] := by
    have ll := @len_lv l
    by_cases hc : 0 < l.length ∧ c'.fmod 5 = 0
    · obtain ⟨t, q, rfl⟩ : ∃ t q, l = t ++ [q] := by
        rcases List.eq_nil_or_concat l with rfl | ⟨t, q, rfl⟩
        · exact absurd hc.1 (by simp)
        · exact ⟨t, q, by rw [List.concat_eq_append]⟩
      have tl : (t ++ [q]).length = t.length + 1 := by simp
      have zl : evBin .mul (lv [0]) (.int (t.length : Int)) = _ := zero_list (m := t.length) (by omega)
      have lc := @last_cut t q
      have em : ((t ++ [q]).length : Int) - 1 = (t.length : Int) := by rw [tl]; omega
      have ad := add_lv (a := List.replicate t.length 0) (b := [q]) (by rw [List.length_replicate]; show _ + 1 ≤ _; omega)
      refine ⟨List.replicate t.length 0 ++ [q], by rw [List.length_append, List.length_replicate]; show _ + 1 ≤ _; omega, fun x hx => ?_, ?_⟩
      · rcases List.mem_append.mp hx with hx | hx
        · rw [(List.mem_replicate.mp hx).2]; exact ⟨by decide +kernel, by decide +kernel⟩
        · rw [List.mem_singleton.mp hx]; exact hz q (List.mem_append_right _ (by simp))
      · have g1 : (((t ++ [q]).length : Int) > 0) = True := eq_true (by omega)
        have g2 : ((0 : Int) < ((t ++ [q]).length : Int)) = True := eq_true (by omega)
        have q5 := eq_true hc.2
        have is1 : isLst (lv (List.replicate t.length 0 ++ [q])) = true := rfl
        unfold cvB
        clear hz hp u u5 c30 eA hc tl hl e
        generalize ((t ++ [q]).length : Int) = n at *
        generalize (t.length : Int) = n1 at *
        generalize lv (List.replicate t.length 0 ++ [q]) = L3 at *
        generalize lv (List.replicate t.length 0) = L1 at *
        generalize lv (t ++ [q]) = L at *
        walk_at "evh"
    · refine ⟨l, by omega, hz, ?_⟩
      unfold cvB
      by_cases h0 : 0 < l.length
      · have g1 : ((l.length : Int) > 0) = True := eq_true (by omega)
        have g2 : ((0 : Int) < (l.length : Int)) = True := eq_true (by omega)
        have q5 := eq_false fun z => hc ⟨h0, z⟩
        clear hz hp u u5 c30 eA hc hl e h0
        generalize (l.length : Int) = n at *
        generalize lv l = L at *
        walk_at "evh"
      · have g1 : ((l.length : Int) > 0) = False := eq_false (by omega)
        have g2 : ((0 : Int) < (l.length : Int)) = False := eq_false (by omega)
        clear hz hp u u5 c30 eA hc hl e h0
        generalize (l.length : Int) = n at *
        generalize lv l = L at *
        walk_at "evh"
  obtain ⟨m, m1, m2, m3, eW⟩ := cv_whl (N := N) (x0 := some (.scr ns, false)) (x1 := some (.int a, false)) (x3 := none) l2.length l2 (Nat.le_refl _) h2 hz2
  refine ⟨m, m1, m2, m3, ?_⟩
  have tp := @tuple_lv m
  have isC : isLst (cv m) = false := rfl
  rw [callF_s f136 rfl, cvfit, show startE fd_law_curve.nl [.scr ns, .int a] = [some (.scr ns, false), some (.int a, false), none, none] from rfl, ss_app, eA, thn_nx, ss_app, eB, thn_nx, ss_cons', s_whl']
  show fin (thnS _ (whlO (callF FT (N + 3)) cvC _ [some (.scr ns, false), some (.int a, false), some (lv l2, true), none]) _) = _
  rw [eW, thn_nx]
  clear eA eB eW hz hz2 hp u u5 c30 c31 m1 m2 m3 h2 e hl
  generalize lv m = L at *
  generalize cv m = C at *
  walk_at "evh"
def rtL : List S := [.ifs (.or (.not (.isi (.bor 2) [(.ty "tuple")])) (.or (.isi (.ix (.bor 2) (.cst (.int 0))) [(.ty "bool")]) (.isi (.ix (.bor 2) (.cst (.int 1))) [(.ty "bool")]))) [.ret (.cst (.bl false))] []]
theorem rt_loop {cl : Nat → List Val → G.R (Val × Bool)} {x0 x1 : Option (Val × Bool)} : ∀ (l : List Rat) (z : Option (Val × Bool)), ∃ y, forL (.one 2) (fun env' => evSs cl rtL env') (l.map nv) [x0, x1, z] = .nx [x0, x1, y]
  | [], z => ⟨z, rfl⟩
  | q :: l, z => by
    obtain ⟨y, e⟩ := rt_loop (cl := cl) (x0 := x0) (x1 := x1) l (some (nv q, false))
    refine ⟨y, ?_⟩
    rw [List.map_cons, ← e]
    exact forL_cons (env1 := [x0, x1, some (nv q, false)]) rfl rfl
theorem right_ok {l : List Rat} (tl : Trim l) (h : ∀ q ∈ l, S12 q) (h13 : l.length ≤ 13) : callF FT (N + 6) 133 [cv l] = .ok (.bl true, false) := by
  have c1 : callF FT (N + 5) 232 [cv l] = _ := w_text (N := N + 2) (.inr rfl) (fun q hq => (h q hq).sz) (by omega)
  have c2 : callF FT (N + 5) 115 [.str (showS l)] = _ := w_read bd (N := N) tl h h13
  have is : isiA (cv l) [.ty "tuple"] = .ok true := rfl
  have ne : evCmp .ne (cv l) (cv l) = .ok (.bl false) := by rw [c_neC, decide_eq_true rfl]; rfl
  obtain ⟨y, eL⟩ := rt_loop (cl := callF FT (N + 5)) (x0 := some (cv l, false)) (x1 := some (cv l, false)) l none
  have it : itemsOf (cv l) = .ok (l.map nv) := rfl
  rw [callF_s f133 rfl, show fd_law_right.body = [.set 1 (.call 115 [(.call 232 [(.bor 0)])]), .ifs (.or (.not (.isi (.bor 1) [(.ty "tuple")])) (.cmp .ne (.bor 1) (.bor 0))) [.ret (.cst (.bl false))] [], .for (.one 2) (.val (.nm 1)) rtL, .ret (.cst (.bl true))] from rfl, show startE fd_law_right.nl [cv l] = [some (cv l, false), none, none] from rfl]
  clear tl h h13
  generalize l.map nv = its at *
  generalize showS l = s at *
  generalize cv l = C at *
  walk_at "evh"
theorem show_nil : showS [] = Str.ofString "0" := by unfold showS; exact if_pos rfl
theorem plain (ns : List Int) (hl : ns.length ≤ 63) (hb : ∀ z ∈ ns, Builtin.Int.intBits z ≤ 1048576) : ∃ fr, callF FT 20 127 [.scr ns] = .ok (.bl true, fr) := by
  refine ⟨false, ?_⟩
  clear hl hb
  obtain ⟨l, t1, l1, z1, c1⟩ := callF_curve (N := 15) (ns := ns) (a := 100) (by decide) (by decide)
  obtain ⟨m, t2, l2, z2, c2⟩ := callF_curve (N := 15) (ns := ns) (a := 300) (by decide) (by decide)
  replace c1 : callF FT 19 136 [.scr ns, .int 100] = _ := c1
  replace c2 : callF FT 19 136 [.scr ns, .int 300] = _ := c2
  have r1 : callF FT 19 133 [cv l] = _ := right_ok (N := 13) t1 z1 l1
  have r2 : callF FT 19 133 [cv m] = _ := right_ok (N := 13) t2 z2 l2
  have r0 : callF FT 19 115 [.str (showS [])] = _ := w_read bd (N := 14) (l := []) Trim.nil (fun q hq => absurd hq (by simp)) (by simp)
  rw [show_nil] at r0
  have eq0 : evCmp .eq (cv []) (cv []) = .ok (.bl true) := by rw [c_eqC, decide_eq_true rfl]
  rw [callF_s f127 rfl, show startE fd_law.nl [.scr ns] = [some (.scr ns, false), none, none] from rfl]
  unfold fd_law
  clear t1 l1 z1 t2 l2 z2
  walk_at "evh"
end G.K57

set_option maxHeartbeats 4000000
namespace G.K57
open PySem PySem.Spec PyProof.Rows L2 HT G
def top (i : Nat) : Stmt := PySem.Challenge.pw_neverbelow_k57_curves_read.main.body.getD i (.Pass ⟨0, 0, 0, 0⟩)
def TT : TC := ⟨[(("divisor_of" : Str), (0, 2)), (("sign" : Str), (3, 1)), (("without_noughts" : Str), (8, 1)), (("show_number" : Str), (105, 1)), (("power_shown" : Str), (109, 1)), (("term_shown" : Str), (110, 2)), (("show_curve" : Str), (111, 1)), (("whole_read" : Str), (106, 1)), (("size_read" : Str), (107, 1)), (("power_read" : Str), (112, 1)), (("term_read" : Str), (113, 1)), (("terms_of" : Str), (114, 1)), (("read_curve" : Str), (115, 1)), (("_law_mixed" : Str), (122, 2)), (("_law_divisor" : Str), (124, 2)), (("_law_number" : Str), (129, 2)), (("_law_term" : Str), (236, 2)), (("_law_text" : Str), (232, 1)), (("_law_curve" : Str), (136, 2)), (("_law_right" : Str), (133, 1)), (("law" : Str), (127, 1))],
  [(("NOUGHT" : Str), .tup [.int (0), .int (1)]), (("FIGURES" : Str), .str "0123456789"), (("MOST_FIGURES" : Str), .int (12)), (("MOST_POWER" : Str), .int (12))],
  [(("BelowError" : Str), 0), (("NoText" : Str), 7)],
  [3, 232], [], []⟩
theorem dt_divisor_of : DTx TT FT 0 "divisor_of" (top 4) [("one" : Str), ("other" : Str)] [("one" : Str), ("other" : Str)] fd_divisor_of := ⟨⟨rfl, rfl, rfl, by decide +kernel, rfl, by decide +kernel, by decide +kernel⟩, fun _ _ _ _ _ _ us hl => match us, hl with | [_, _], _ => rfl, rfl, rfl, by kernel_rfl, rfl⟩
theorem dt_sign : DTx TT FT 3 "sign" (top 5) [("one" : Str)] [("one" : Str)] fd_sign := ⟨⟨rfl, rfl, rfl, by decide +kernel, rfl, by decide +kernel, by decide +kernel⟩, fun _ _ _ _ _ _ us hl => match us, hl with | [_], _ => rfl, rfl, rfl, by kernel_rfl, rfl⟩
theorem dt_without_noughts : DTx TT FT 8 "without_noughts" (top 8) [("numbers" : Str), ("many" : Str)] [("numbers" : Str)] fd_without_noughts := ⟨⟨rfl, rfl, rfl, by decide +kernel, rfl, by decide +kernel, by decide +kernel⟩, fun _ _ _ _ _ _ us hl => match us, hl with | [_], _ => rfl, rfl, rfl, by kernel_rfl, rfl⟩
theorem dt_show_number : DTx TT FT 105 "show_number" (top 13) [("one" : Str)] [("one" : Str)] fd_show_number := ⟨⟨rfl, rfl, rfl, by decide +kernel, rfl, by decide +kernel, by decide +kernel⟩, fun _ _ _ _ _ _ us hl => match us, hl with | [_], _ => rfl, rfl, rfl, by kernel_rfl, rfl⟩
theorem dt_power_shown : DTx TT FT 109 "power_shown" (top 14) [("k" : Str)] [("k" : Str)] fd_power_shown := ⟨⟨rfl, rfl, rfl, by decide +kernel, rfl, by decide +kernel, by decide +kernel⟩, fun _ _ _ _ _ _ us hl => match us, hl with | [_], _ => rfl, rfl, rfl, by kernel_rfl, rfl⟩
theorem dt_term_shown : DTx TT FT 110 "term_shown" (top 15) [("one" : Str), ("k" : Str), ("size" : Str)] [("one" : Str), ("k" : Str)] fd_term_shown := ⟨⟨rfl, rfl, rfl, by decide +kernel, rfl, by decide +kernel, by decide +kernel⟩, fun _ _ _ _ _ _ us hl => match us, hl with | [_, _], _ => rfl, rfl, rfl, by kernel_rfl, rfl⟩
theorem dt_show_curve : DTx TT FT 111 "show_curve" (top 16) [("curve" : Str), ("found" : Str), ("k" : Str), ("below" : Str)] [("curve" : Str)] fd_show_curve := ⟨⟨rfl, rfl, rfl, by decide +kernel, rfl, by decide +kernel, by decide +kernel⟩, fun _ _ _ _ _ _ us hl => match us, hl with | [_], _ => rfl, rfl, rfl, by kernel_rfl, rfl⟩
theorem dt_whole_read : DTx TT FT 106 "whole_read" (top 17) [("text" : Str), ("figure" : Str)] [("text" : Str)] fd_whole_read := ⟨⟨rfl, rfl, rfl, by decide +kernel, rfl, by decide +kernel, by decide +kernel⟩, fun _ _ _ _ _ _ us hl => match us, hl with | [_], _ => rfl, rfl, rfl, by kernel_rfl, rfl⟩
theorem dt_size_read : DTx TT FT 107 "size_read" (top 18) [("text" : Str), ("first" : Str), ("bar" : Str), ("last" : Str), ("top" : Str), ("bottom" : Str)] [("text" : Str)] fd_size_read := ⟨⟨rfl, rfl, rfl, by decide +kernel, rfl, by decide +kernel, by decide +kernel⟩, fun _ _ _ _ _ _ us hl => match us, hl with | [_], _ => rfl, rfl, rfl, by kernel_rfl, rfl⟩
theorem dt_power_read : DTx TT FT 112 "power_read" (top 19) [("word" : Str), ("found" : Str)] [("word" : Str)] fd_power_read := ⟨⟨rfl, rfl, rfl, by decide +kernel, rfl, by decide +kernel, by decide +kernel⟩, fun _ _ _ _ _ _ us hl => match us, hl with | [_], _ => rfl, rfl, rfl, by kernel_rfl, rfl⟩
theorem dt_term_read : DTx TT FT 113 "term_read" (top 20) [("words" : Str)] [("words" : Str)] fd_term_read := ⟨⟨rfl, rfl, rfl, by decide +kernel, rfl, by decide +kernel, by decide +kernel⟩, fun _ _ _ _ _ _ us hl => match us, hl with | [_], _ => rfl, rfl, rfl, by kernel_rfl, rfl⟩
theorem dt_terms_of : DTx TT FT 114 "terms_of" (top 21) [("text" : Str), ("below" : Str), ("found" : Str), ("word" : Str)] [("text" : Str)] fd_terms_of := ⟨⟨rfl, rfl, rfl, by decide +kernel, rfl, by decide +kernel, by decide +kernel⟩, fun _ _ _ _ _ _ us hl => match us, hl with | [_], _ => rfl, rfl, rfl, by kernel_rfl, rfl⟩
theorem dt_read_curve : DTx TT FT 115 "read_curve" (top 22) [("text" : Str), ("numbers" : Str), ("below" : Str), ("words" : Str), ("size" : Str), ("k" : Str), ("found" : Str)] [("text" : Str)] fd_read_curve := ⟨⟨rfl, rfl, rfl, by decide +kernel, rfl, by decide +kernel, by decide +kernel⟩, fun _ _ _ _ _ _ us hl => match us, hl with | [_], _ => rfl, rfl, rfl, by kernel_rfl, rfl⟩
theorem dt_law_mixed : DTx TT FT 122 "_law_mixed" (top 24) [("_law_script" : Str), ("_law_k" : Str), ("_law_cell" : Str)] [("_law_script" : Str), ("_law_k" : Str)] fd_law_mixed := ⟨⟨rfl, rfl, rfl, by decide +kernel, rfl, by decide +kernel, by decide +kernel⟩, fun _ _ _ _ _ _ us hl => match us, hl with | [_, _], _ => rfl, rfl, rfl, by kernel_rfl, rfl⟩
theorem dt_law_divisor : DTx TT FT 124 "_law_divisor" (top 25) [("_law_one" : Str), ("_law_other" : Str)] [("_law_one" : Str), ("_law_other" : Str)] fd_law_divisor := ⟨⟨rfl, rfl, rfl, by decide +kernel, rfl, by decide +kernel, by decide +kernel⟩, fun _ _ _ _ _ _ us hl => match us, hl with | [_, _], _ => rfl, rfl, rfl, by kernel_rfl, rfl⟩
theorem dt_law_number : DTx TT FT 129 "_law_number" (top 26) [("_law_script" : Str), ("_law_at" : Str), ("_law_cell" : Str), ("_law_way" : Str), ("_law_top" : Str), ("_law_bottom" : Str), ("_law_by" : Str)] [("_law_script" : Str), ("_law_at" : Str)] fd_law_number := ⟨⟨rfl, rfl, rfl, by decide +kernel, rfl, by decide +kernel, by decide +kernel⟩, fun _ _ _ _ _ _ us hl => match us, hl with | [_, _], _ => rfl, rfl, rfl, by kernel_rfl, rfl⟩
theorem dt_law_term : DTx TT FT 236 "_law_term" (top 27) [("_law_one" : Str), ("_law_k" : Str), ("_law_size" : Str), ("_law_x" : Str)] [("_law_one" : Str), ("_law_k" : Str)] fd_law_term := ⟨⟨rfl, rfl, rfl, by decide +kernel, rfl, by decide +kernel, by decide +kernel⟩, fun _ _ _ _ _ _ us hl => match us, hl with | [_, _], _ => rfl, rfl, rfl, by kernel_rfl, rfl⟩
theorem dt_law_text : DTx TT FT 232 "_law_text" (top 28) [("_law_curve_here" : Str), ("_law_text_here" : Str), ("_law_k" : Str), ("_law_below" : Str)] [("_law_curve_here" : Str)] fd_law_text := ⟨⟨rfl, rfl, rfl, by decide +kernel, rfl, by decide +kernel, by decide +kernel⟩, fun _ _ _ _ _ _ us hl => match us, hl with | [_], _ => rfl, rfl, rfl, by kernel_rfl, rfl⟩
theorem dt_law_curve : DTx TT FT 136 "_law_curve" (top 29) [("_law_script" : Str), ("_law_at" : Str), ("_law_some" : Str), ("_law_j" : Str)] [("_law_script" : Str), ("_law_at" : Str)] fd_law_curve := ⟨⟨rfl, rfl, rfl, by decide +kernel, rfl, by decide +kernel, by decide +kernel⟩, fun _ _ _ _ _ _ us hl => match us, hl with | [_, _], _ => rfl, rfl, rfl, by kernel_rfl, rfl⟩
theorem dt_law_right : DTx TT FT 133 "_law_right" (top 30) [("_law_curve_here" : Str), ("_law_found" : Str), ("_law_one" : Str)] [("_law_curve_here" : Str)] fd_law_right := ⟨⟨rfl, rfl, rfl, by decide +kernel, rfl, by decide +kernel, by decide +kernel⟩, fun _ _ _ _ _ _ us hl => match us, hl with | [_], _ => rfl, rfl, rfl, by kernel_rfl, rfl⟩
theorem dt_law : DTx TT FT 127 "law" (top 31) [("_law_script" : Str), ("_law_one" : Str), ("_law_other" : Str)] [("_law_script" : Str)] fd_law := ⟨⟨rfl, rfl, rfl, by decide +kernel, rfl, by decide +kernel, by decide +kernel⟩, fun _ _ _ _ _ _ us hl => match us, hl with | [_], _ => rfl, rfl, rfl, by kernel_rfl, rfl⟩
theorem all_mk {w : World} {K : PySem.W.Frag} {h : Heap} {mg : Str → Option Value} {fa : Addr} (X : K.In h) (G : h.Ns mainGlobals mg) (hfa : mg "law" = some (.ref fa)) {fd0 : Addr} {ocd0 kVd0 dcd0 pmd0 cdd0 ctd0 : Value} {odd0 and0 : Option Addr} {sld0 : Array (Option Value)} (ad0 : PySem.W.nsIn K mainGlobals "divisor_of" = some (some (.ref fd0))) (ld0 : K.lookup fd0 = some ⟨ocd0, odd0, .func (PySem.W.fnOf "divisor_of" "divisor_of" (defArgs (top 4)) (defBody (top 4)) (defScope (top 4)) .none kVd0 dcd0 pmd0 and0 cdd0 ctd0), sld0⟩) (cd0 : PySem.W.codeIn K cdd0 "divisor_of" = true) (kd0 : PySem.W.keepIn K (.ref fd0) = true) {fd1 : Addr} {ocd1 kVd1 dcd1 pmd1 cdd1 ctd1 : Value} {odd1 and1 : Option Addr} {sld1 : Array (Option Value)} (ad1 : PySem.W.nsIn K mainGlobals "sign" = some (some (.ref fd1))) (ld1 : K.lookup fd1 = some ⟨ocd1, odd1, .func (PySem.W.fnOf "sign" "sign" (defArgs (top 5)) (defBody (top 5)) (defScope (top 5)) .none kVd1 dcd1 pmd1 and1 cdd1 ctd1), sld1⟩) (cd1 : PySem.W.codeIn K cdd1 "sign" = true) (kd1 : PySem.W.keepIn K (.ref fd1) = true) {fd2 : Addr} {ocd2 kVd2 dcd2 pmd2 cdd2 ctd2 : Value} {odd2 and2 : Option Addr} {sld2 : Array (Option Value)} (ad2 : PySem.W.nsIn K mainGlobals "without_noughts" = some (some (.ref fd2))) (ld2 : K.lookup fd2 = some ⟨ocd2, odd2, .func (PySem.W.fnOf "without_noughts" "without_noughts" (defArgs (top 8)) (defBody (top 8)) (defScope (top 8)) .none kVd2 dcd2 pmd2 and2 cdd2 ctd2), sld2⟩) (cd2 : PySem.W.codeIn K cdd2 "without_noughts" = true) (kd2 : PySem.W.keepIn K (.ref fd2) = true) {fd3 : Addr} {ocd3 kVd3 dcd3 pmd3 cdd3 ctd3 : Value} {odd3 and3 : Option Addr} {sld3 : Array (Option Value)} (ad3 : PySem.W.nsIn K mainGlobals "show_number" = some (some (.ref fd3))) (ld3 : K.lookup fd3 = some ⟨ocd3, odd3, .func (PySem.W.fnOf "show_number" "show_number" (defArgs (top 13)) (defBody (top 13)) (defScope (top 13)) .none kVd3 dcd3 pmd3 and3 cdd3 ctd3), sld3⟩) (cd3 : PySem.W.codeIn K cdd3 "show_number" = true) (kd3 : PySem.W.keepIn K (.ref fd3) = true) {fd4 : Addr} {ocd4 kVd4 dcd4 pmd4 cdd4 ctd4 : Value} {odd4 and4 : Option Addr} {sld4 : Array (Option Value)} (ad4 : PySem.W.nsIn K mainGlobals "power_shown" = some (some (.ref fd4))) (ld4 : K.lookup fd4 = some ⟨ocd4, odd4, .func (PySem.W.fnOf "power_shown" "power_shown" (defArgs (top 14)) (defBody (top 14)) (defScope (top 14)) .none kVd4 dcd4 pmd4 and4 cdd4 ctd4), sld4⟩) (cd4 : PySem.W.codeIn K cdd4 "power_shown" = true) (kd4 : PySem.W.keepIn K (.ref fd4) = true) {fd5 : Addr} {ocd5 kVd5 dcd5 pmd5 cdd5 ctd5 : Value} {odd5 and5 : Option Addr} {sld5 : Array (Option Value)} (ad5 : PySem.W.nsIn K mainGlobals "term_shown" = some (some (.ref fd5))) (ld5 : K.lookup fd5 = some ⟨ocd5, odd5, .func (PySem.W.fnOf "term_shown" "term_shown" (defArgs (top 15)) (defBody (top 15)) (defScope (top 15)) .none kVd5 dcd5 pmd5 and5 cdd5 ctd5), sld5⟩) (cd5 : PySem.W.codeIn K cdd5 "term_shown" = true) (kd5 : PySem.W.keepIn K (.ref fd5) = true) {fd6 : Addr} {ocd6 kVd6 dcd6 pmd6 cdd6 ctd6 : Value} {odd6 and6 : Option Addr} {sld6 : Array (Option Value)} (ad6 : PySem.W.nsIn K mainGlobals "show_curve" = some (some (.ref fd6))) (ld6 : K.lookup fd6 = some ⟨ocd6, odd6, .func (PySem.W.fnOf "show_curve" "show_curve" (defArgs (top 16)) (defBody (top 16)) (defScope (top 16)) .none kVd6 dcd6 pmd6 and6 cdd6 ctd6), sld6⟩) (cd6 : PySem.W.codeIn K cdd6 "show_curve" = true) (kd6 : PySem.W.keepIn K (.ref fd6) = true) {fd7 : Addr} {ocd7 kVd7 dcd7 pmd7 cdd7 ctd7 : Value} {odd7 and7 : Option Addr} {sld7 : Array (Option Value)} (ad7 : PySem.W.nsIn K mainGlobals "whole_read" = some (some (.ref fd7))) (ld7 : K.lookup fd7 = some ⟨ocd7, odd7, .func (PySem.W.fnOf "whole_read" "whole_read" (defArgs (top 17)) (defBody (top 17)) (defScope (top 17)) .none kVd7 dcd7 pmd7 and7 cdd7 ctd7), sld7⟩) (cd7 : PySem.W.codeIn K cdd7 "whole_read" = true) (kd7 : PySem.W.keepIn K (.ref fd7) = true) {fd8 : Addr} {ocd8 kVd8 dcd8 pmd8 cdd8 ctd8 : Value} {odd8 and8 : Option Addr} {sld8 : Array (Option Value)} (ad8 : PySem.W.nsIn K mainGlobals "size_read" = some (some (.ref fd8))) (ld8 : K.lookup fd8 = some ⟨ocd8, odd8, .func (PySem.W.fnOf "size_read" "size_read" (defArgs (top 18)) (defBody (top 18)) (defScope (top 18)) .none kVd8 dcd8 pmd8 and8 cdd8 ctd8), sld8⟩) (cd8 : PySem.W.codeIn K cdd8 "size_read" = true) (kd8 : PySem.W.keepIn K (.ref fd8) = true) {fd9 : Addr} {ocd9 kVd9 dcd9 pmd9 cdd9 ctd9 : Value} {odd9 and9 : Option Addr} {sld9 : Array (Option Value)} (ad9 : PySem.W.nsIn K mainGlobals "power_read" = some (some (.ref fd9))) (ld9 : K.lookup fd9 = some ⟨ocd9, odd9, .func (PySem.W.fnOf "power_read" "power_read" (defArgs (top 19)) (defBody (top 19)) (defScope (top 19)) .none kVd9 dcd9 pmd9 and9 cdd9 ctd9), sld9⟩) (cd9 : PySem.W.codeIn K cdd9 "power_read" = true) (kd9 : PySem.W.keepIn K (.ref fd9) = true) {fd10 : Addr} {ocd10 kVd10 dcd10 pmd10 cdd10 ctd10 : Value} {odd10 and10 : Option Addr} {sld10 : Array (Option Value)} (ad10 : PySem.W.nsIn K mainGlobals "term_read" = some (some (.ref fd10))) (ld10 : K.lookup fd10 = some ⟨ocd10, odd10, .func (PySem.W.fnOf "term_read" "term_read" (defArgs (top 20)) (defBody (top 20)) (defScope (top 20)) .none kVd10 dcd10 pmd10 and10 cdd10 ctd10), sld10⟩) (cd10 : PySem.W.codeIn K cdd10 "term_read" = true) (kd10 : PySem.W.keepIn K (.ref fd10) = true) {fd11 : Addr} {ocd11 kVd11 dcd11 pmd11 cdd11 ctd11 : Value} {odd11 and11 : Option Addr} {sld11 : Array (Option Value)} (ad11 : PySem.W.nsIn K mainGlobals "terms_of" = some (some (.ref fd11))) (ld11 : K.lookup fd11 = some ⟨ocd11, odd11, .func (PySem.W.fnOf "terms_of" "terms_of" (defArgs (top 21)) (defBody (top 21)) (defScope (top 21)) .none kVd11 dcd11 pmd11 and11 cdd11 ctd11), sld11⟩) (cd11 : PySem.W.codeIn K cdd11 "terms_of" = true) (kd11 : PySem.W.keepIn K (.ref fd11) = true) {fd12 : Addr} {ocd12 kVd12 dcd12 pmd12 cdd12 ctd12 : Value} {odd12 and12 : Option Addr} {sld12 : Array (Option Value)} (ad12 : PySem.W.nsIn K mainGlobals "read_curve" = some (some (.ref fd12))) (ld12 : K.lookup fd12 = some ⟨ocd12, odd12, .func (PySem.W.fnOf "read_curve" "read_curve" (defArgs (top 22)) (defBody (top 22)) (defScope (top 22)) .none kVd12 dcd12 pmd12 and12 cdd12 ctd12), sld12⟩) (cd12 : PySem.W.codeIn K cdd12 "read_curve" = true) (kd12 : PySem.W.keepIn K (.ref fd12) = true) {fd13 : Addr} {ocd13 kVd13 dcd13 pmd13 cdd13 ctd13 : Value} {odd13 and13 : Option Addr} {sld13 : Array (Option Value)} (ad13 : PySem.W.nsIn K mainGlobals "_law_mixed" = some (some (.ref fd13))) (ld13 : K.lookup fd13 = some ⟨ocd13, odd13, .func (PySem.W.fnOf "_law_mixed" "_law_mixed" (defArgs (top 24)) (defBody (top 24)) (defScope (top 24)) .none kVd13 dcd13 pmd13 and13 cdd13 ctd13), sld13⟩) (cd13 : PySem.W.codeIn K cdd13 "_law_mixed" = true) (kd13 : PySem.W.keepIn K (.ref fd13) = true) {fd14 : Addr} {ocd14 kVd14 dcd14 pmd14 cdd14 ctd14 : Value} {odd14 and14 : Option Addr} {sld14 : Array (Option Value)} (ad14 : PySem.W.nsIn K mainGlobals "_law_divisor" = some (some (.ref fd14))) (ld14 : K.lookup fd14 = some ⟨ocd14, odd14, .func (PySem.W.fnOf "_law_divisor" "_law_divisor" (defArgs (top 25)) (defBody (top 25)) (defScope (top 25)) .none kVd14 dcd14 pmd14 and14 cdd14 ctd14), sld14⟩) (cd14 : PySem.W.codeIn K cdd14 "_law_divisor" = true) (kd14 : PySem.W.keepIn K (.ref fd14) = true) {fd15 : Addr} {ocd15 kVd15 dcd15 pmd15 cdd15 ctd15 : Value} {odd15 and15 : Option Addr} {sld15 : Array (Option Value)} (ad15 : PySem.W.nsIn K mainGlobals "_law_number" = some (some (.ref fd15))) (ld15 : K.lookup fd15 = some ⟨ocd15, odd15, .func (PySem.W.fnOf "_law_number" "_law_number" (defArgs (top 26)) (defBody (top 26)) (defScope (top 26)) .none kVd15 dcd15 pmd15 and15 cdd15 ctd15), sld15⟩) (cd15 : PySem.W.codeIn K cdd15 "_law_number" = true) (kd15 : PySem.W.keepIn K (.ref fd15) = true) {fd16 : Addr} {ocd16 kVd16 dcd16 pmd16 cdd16 ctd16 : Value} {odd16 and16 : Option Addr} {sld16 : Array (Option Value)} (ad16 : PySem.W.nsIn K mainGlobals "_law_term" = some (some (.ref fd16))) (ld16 : K.lookup fd16 = some ⟨ocd16, odd16, .func (PySem.W.fnOf "_law_term" "_law_term" (defArgs (top 27)) (defBody (top 27)) (defScope (top 27)) .none kVd16 dcd16 pmd16 and16 cdd16 ctd16), sld16⟩) (cd16 : PySem.W.codeIn K cdd16 "_law_term" = true) (kd16 : PySem.W.keepIn K (.ref fd16) = true) {fd17 : Addr} {ocd17 kVd17 dcd17 pmd17 cdd17 ctd17 : Value} {odd17 and17 : Option Addr} {sld17 : Array (Option Value)} (ad17 : PySem.W.nsIn K mainGlobals "_law_text" = some (some (.ref fd17))) (ld17 : K.lookup fd17 = some ⟨ocd17, odd17, .func (PySem.W.fnOf "_law_text" "_law_text" (defArgs (top 28)) (defBody (top 28)) (defScope (top 28)) .none kVd17 dcd17 pmd17 and17 cdd17 ctd17), sld17⟩) (cd17 : PySem.W.codeIn K cdd17 "_law_text" = true) (kd17 : PySem.W.keepIn K (.ref fd17) = true) {fd18 : Addr} {ocd18 kVd18 dcd18 pmd18 cdd18 ctd18 : Value} {odd18 and18 : Option Addr} {sld18 : Array (Option Value)} (ad18 : PySem.W.nsIn K mainGlobals "_law_curve" = some (some (.ref fd18))) (ld18 : K.lookup fd18 = some ⟨ocd18, odd18, .func (PySem.W.fnOf "_law_curve" "_law_curve" (defArgs (top 29)) (defBody (top 29)) (defScope (top 29)) .none kVd18 dcd18 pmd18 and18 cdd18 ctd18), sld18⟩) (cd18 : PySem.W.codeIn K cdd18 "_law_curve" = true) (kd18 : PySem.W.keepIn K (.ref fd18) = true) {fd19 : Addr} {ocd19 kVd19 dcd19 pmd19 cdd19 ctd19 : Value} {odd19 and19 : Option Addr} {sld19 : Array (Option Value)} (ad19 : PySem.W.nsIn K mainGlobals "_law_right" = some (some (.ref fd19))) (ld19 : K.lookup fd19 = some ⟨ocd19, odd19, .func (PySem.W.fnOf "_law_right" "_law_right" (defArgs (top 30)) (defBody (top 30)) (defScope (top 30)) .none kVd19 dcd19 pmd19 and19 cdd19 ctd19), sld19⟩) (cd19 : PySem.W.codeIn K cdd19 "_law_right" = true) (kd19 : PySem.W.keepIn K (.ref fd19) = true) {fd20 : Addr} {ocd20 kVd20 dcd20 pmd20 cdd20 ctd20 : Value} {odd20 and20 : Option Addr} {sld20 : Array (Option Value)} (ad20 : PySem.W.nsIn K mainGlobals "law" = some (some (.ref fd20))) (ld20 : K.lookup fd20 = some ⟨ocd20, odd20, .func (PySem.W.fnOf "law" "law" (defArgs (top 31)) (defBody (top 31)) (defScope (top 31)) .none kVd20 dcd20 pmd20 and20 cdd20 ctd20), sld20⟩) (cd20 : PySem.W.codeIn K cdd20 "law" = true) (kd20 : PySem.W.keepIn K (.ref fd20) = true) {C0 : Addr} {cl0 : ClassData} (n0 : PySem.W.nsIn K mainGlobals "BelowError" = some (some (.ref C0))) (t0 : CFt K C0 0 C0 cl0) {C1 : Addr} {cl1 : ClassData} (n1 : PySem.W.nsIn K mainGlobals "NoText" = some (some (.ref C1))) (t1 : CFt K C0 7 C1 cl1) (hn : PySem.W.specialIn K (.builtin "object.__class__") "__get__" = some (some (.builtin "getset_descriptor.__get__"))) (ht : PySem.W.takesIn K (.builtin "object.__class__") = some true) (nd : (([(0, C0), (7, C1)] : List (Nat × Addr)).map (·.2)).Nodup) (z0 : PySem.W.nsIn K mainGlobals "len" = some none) (z1 : PySem.W.nsIn K mainGlobals "abs" = some none) (z2 : PySem.W.nsIn K mainGlobals "int" = some none) (z3 : PySem.W.nsIn K mainGlobals "list" = some none) (z4 : PySem.W.nsIn K mainGlobals "tuple" = some none) (z5 : PySem.W.nsIn K mainGlobals "max" = some none) (z6 : PySem.W.nsIn K mainGlobals "min" = some none) (z7 : PySem.W.nsIn K mainGlobals "isinstance" = some none) (z8 : PySem.W.nsIn K mainGlobals "range" = some none) (z9 : PySem.W.nsIn K mainGlobals "reversed" = some none) (z10 : PySem.W.nsIn K mainGlobals "ValueError" = some none) (z11 : PySem.W.nsIn K mainGlobals "bool" = some none) (z12 : PySem.W.nsIn K mainGlobals "str" = some none) (z13 : PySem.W.nsIn K mainGlobals "zip" = some none) (z14 : PySem.W.nsIn K mainGlobals "set" = some none) (z15 : PySem.W.nsIn K mainGlobals "sum" = some none) (z16 : PySem.W.nsIn K mainGlobals "all" = some none) (z17 : PySem.W.nsIn K mainGlobals "sorted" = some none) {tp0 : Addr} {to0 : Obj} {ts0 : Array Value} {tn0 : Nat} (v0 : PySem.W.nsIn K mainGlobals "NOUGHT" = some (some (.ref tp0))) (w0 : K.lookup tp0 = some to0) (x0 : TupK to0 ts0 tn0 [V.int (0), V.int (1)]) {vt1 : Tok} (v1 : PySem.W.nsIn K mainGlobals "FIGURES" = some (some (.str "0123456789" vt1))) {vt2 : Tok} (v2 : PySem.W.nsIn K mainGlobals "MOST_FIGURES" = some (some (.int (12) vt2))) {vt3 : Tok} (v3 : PySem.W.nsIn K mainGlobals "MOST_POWER" = some (some (.int (12) vt3))) :
    ∃ (fd : FuncData) (CA : Nat → Option Addr), (∀ (s : Shared) (u : Value), BindsTo s fd ⟨[u], []⟩ [("_law_script", u)]) ∧ ∀ base : Heap, K.In base → base.Ns mainGlobals mg → base.NoSeer → FnOk PySem.Challenge.rw_neverbelow_k57_curves_read.prog w K mg base (L2N.CX PySem.Challenge.rw_neverbelow_k57_curves_read.prog w) 60 fa fd ["_law_script"] (spF K CA (callF FT 20) 127 1) := by
  have e := hfa.symm.trans (PySem.W.mg_of X G ad20)
  cases e
  have D0 := df_mk X G dt_divisor_of ad0 ld0 cd0 kd0
  have D1 := df_mk X G dt_sign ad1 ld1 cd1 kd1
  have D2 := df_mk X G dt_without_noughts ad2 ld2 cd2 kd2
  have D3 := df_mk X G dt_show_number ad3 ld3 cd3 kd3
  have D4 := df_mk X G dt_power_shown ad4 ld4 cd4 kd4
  have D5 := df_mk X G dt_term_shown ad5 ld5 cd5 kd5
  have D6 := df_mk X G dt_show_curve ad6 ld6 cd6 kd6
  have D7 := df_mk X G dt_whole_read ad7 ld7 cd7 kd7
  have D8 := df_mk X G dt_size_read ad8 ld8 cd8 kd8
  have D9 := df_mk X G dt_power_read ad9 ld9 cd9 kd9
  have D10 := df_mk X G dt_term_read ad10 ld10 cd10 kd10
  have D11 := df_mk X G dt_terms_of ad11 ld11 cd11 kd11
  have D12 := df_mk X G dt_read_curve ad12 ld12 cd12 kd12
  have D13 := df_mk X G dt_law_mixed ad13 ld13 cd13 kd13
  have D14 := df_mk X G dt_law_divisor ad14 ld14 cd14 kd14
  have D15 := df_mk X G dt_law_number ad15 ld15 cd15 kd15
  have D16 := df_mk X G dt_law_term ad16 ld16 cd16 kd16
  have D17 := df_mk X G dt_law_text ad17 ld17 cd17 kd17
  have D18 := df_mk X G dt_law_curve ad18 ld18 cd18 kd18
  have D19 := df_mk X G dt_law_right ad19 ld19 cd19 kd19
  have D20 := df_mk X G dt_law ad20 ld20 cd20 kd20
  have D : Dfs TT FT K mg := dfs_of (al_cons ⟨_, _, _, _, _, _, D0, rfl⟩ (al_cons ⟨_, _, _, _, _, _, D1, rfl⟩ (al_cons ⟨_, _, _, _, _, _, D2, rfl⟩ (al_cons ⟨_, _, _, _, _, _, D3, rfl⟩ (al_cons ⟨_, _, _, _, _, _, D4, rfl⟩ (al_cons ⟨_, _, _, _, _, _, D5, rfl⟩ (al_cons ⟨_, _, _, _, _, _, D6, rfl⟩ (al_cons ⟨_, _, _, _, _, _, D7, rfl⟩ (al_cons ⟨_, _, _, _, _, _, D8, rfl⟩ (al_cons ⟨_, _, _, _, _, _, D9, rfl⟩ (al_cons ⟨_, _, _, _, _, _, D10, rfl⟩ (al_cons ⟨_, _, _, _, _, _, D11, rfl⟩ (al_cons ⟨_, _, _, _, _, _, D12, rfl⟩ (al_cons ⟨_, _, _, _, _, _, D13, rfl⟩ (al_cons ⟨_, _, _, _, _, _, D14, rfl⟩ (al_cons ⟨_, _, _, _, _, _, D15, rfl⟩ (al_cons ⟨_, _, _, _, _, _, D16, rfl⟩ (al_cons ⟨_, _, _, _, _, _, D17, rfl⟩ (al_cons ⟨_, _, _, _, _, _, D18, rfl⟩ (al_cons ⟨_, _, _, _, _, _, D19, rfl⟩ (al_cons ⟨_, _, _, _, _, _, D20, rfl⟩ al_nil)))))))))))))))))))))
  have cf : CFs K (caOf [(0, C0), (7, C1)]) := cfs_of (C0 := C0) rfl nd (al_cons (t0.cf hn ht) (al_cons (t1.cf hn ht) al_nil))
  have cls := lk_cls (mg := mg) (l := [(0, C0), (7, C1)]) (xs := TT.cls) (al_cons ⟨C0, rfl, PySem.W.mg_of X G n0⟩ (al_cons ⟨C1, rfl, PySem.W.mg_of X G n1⟩ al_nil))
  have csts : ∀ e ∈ TT.csts, ∃ u y, mg e.1 = some u ∧ RelV y u ∧ ∀ H P, RV K (caOf [(0, C0), (7, C1)]) H P e.2 y := (al_cons ⟨_, .ref tp0, PySem.W.mg_of X G v0, rfl, fun _ _ => .tup (x0.sq w0) (.cons (.int _) (.cons (.int _) .nil))⟩ (al_cons ⟨_, .str "0123456789", PySem.W.mg_of X G v1, ⟨_, rfl⟩, fun _ _ => .str _⟩ (al_cons ⟨_, .int (12), PySem.W.mg_of X G v2, ⟨_, rfl⟩, fun _ _ => .int _⟩ (al_cons ⟨_, .int (12), PySem.W.mg_of X G v3, ⟨_, rfl⟩, fun _ _ => .int _⟩ al_nil))))
  have blt : ∀ x ∈ bltNames, mg x = none := (al_cons (PySem.W.mg_none_of X G z0) (al_cons (PySem.W.mg_none_of X G z1) (al_cons (PySem.W.mg_none_of X G z2) (al_cons (PySem.W.mg_none_of X G z3) (al_cons (PySem.W.mg_none_of X G z4) (al_cons (PySem.W.mg_none_of X G z5) (al_cons (PySem.W.mg_none_of X G z6) (al_cons (PySem.W.mg_none_of X G z7) (al_cons (PySem.W.mg_none_of X G z8) (al_cons (PySem.W.mg_none_of X G z9) (al_cons (PySem.W.mg_none_of X G z10) (al_cons (PySem.W.mg_none_of X G z11) (al_cons (PySem.W.mg_none_of X G z12) (al_cons (PySem.W.mg_none_of X G z13) (al_cons (PySem.W.mg_none_of X G z14) (al_cons (PySem.W.mg_none_of X G z15) (al_cons (PySem.W.mg_none_of X G z16) (al_cons (PySem.W.mg_none_of X G z17) al_nil))))))))))))))))))
  exact ⟨_, _, fun s v => .of_eq rfl, fun base _ _ hS => fn_ok D ⟨hS, rfl, cf, fun x v e => lk_all csts x v e, cls, blt⟩ 20 127 "law" _ _ _ _ _ _ D20⟩
end G.K57
open PySem PySem.W PyProof.Rows
set_option maxRecDepth 100000 in
set_option maxHeartbeats 0 in
theorem PySem.Challenge.cw_neverbelow_k57_curves_read_holds : PySem.Challenge.rw_neverbelow_k57_curves_read.Holds := by
  w_on; o_law; k_head; (case hw => w_witness2)
  k_fill
  refine G.walkL (l := PySem.Challenge.rw_neverbelow_k57_curves_read) (n := 63) (k := 60) (x := "_law_script") rfl (by decide) rfl ⟨rfl, by decide, by decide⟩ ?Q G.K57.plain (fun w h Y => PySem.W.kIn_of Y) ?F
  case F =>
    intro w mg fa h KX GG hmg
    refine' G.K57.all_mk KX GG hmg ?ad0 ?ld0 ?cd0 ?kd0 ?ad1 ?ld1 ?cd1 ?kd1 ?ad2 ?ld2 ?cd2 ?kd2 ?ad3 ?ld3 ?cd3 ?kd3 ?ad4 ?ld4 ?cd4 ?kd4 ?ad5 ?ld5 ?cd5 ?kd5 ?ad6 ?ld6 ?cd6 ?kd6 ?ad7 ?ld7 ?cd7 ?kd7 ?ad8 ?ld8 ?cd8 ?kd8 ?ad9 ?ld9 ?cd9 ?kd9 ?ad10 ?ld10 ?cd10 ?kd10 ?ad11 ?ld11 ?cd11 ?kd11 ?ad12 ?ld12 ?cd12 ?kd12 ?ad13 ?ld13 ?cd13 ?kd13 ?ad14 ?ld14 ?cd14 ?kd14 ?ad15 ?ld15 ?cd15 ?kd15 ?ad16 ?ld16 ?cd16 ?kd16 ?ad17 ?ld17 ?cd17 ?kd17 ?ad18 ?ld18 ?cd18 ?kd18 ?ad19 ?ld19 ?cd19 ?kd19 ?ad20 ?ld20 ?cd20 ?kd20 ?n0 ?t0 ?n1 ?t1 ?hn ?ht ?nd ?z0 ?z1 ?z2 ?z3 ?z4 ?z5 ?z6 ?z7 ?z8 ?z9 ?z10 ?z11 ?z12 ?z13 ?z14 ?z15 ?z16 ?z17 ?v0 ?w0 ?x0 ?v1 ?v2 ?v3
    (case ad0 => k_is)
    (case ld0 => k_is)
    (case cd0 => k_is)
    (case kd0 => k_is)
    (case ad1 => k_is)
    (case ld1 => k_is)
    (case cd1 => k_is)
    (case kd1 => k_is)
    (case ad2 => k_is)
    (case ld2 => k_is)
    (case cd2 => k_is)
    (case kd2 => k_is)
    (case ad3 => k_is)
    (case ld3 => k_is)
    (case cd3 => k_is)
    (case kd3 => k_is)
    (case ad4 => k_is)
    (case ld4 => k_is)
    (case cd4 => k_is)
    (case kd4 => k_is)
    (case ad5 => k_is)
    (case ld5 => k_is)
    (case cd5 => k_is)
    (case kd5 => k_is)
    (case ad6 => k_is)
    (case ld6 => k_is)
    (case cd6 => k_is)
    (case kd6 => k_is)
    (case ad7 => k_is)
    (case ld7 => k_is)
    (case cd7 => k_is)
    (case kd7 => k_is)
    (case ad8 => k_is)
    (case ld8 => k_is)
    (case cd8 => k_is)
    (case kd8 => k_is)
    (case ad9 => k_is)
    (case ld9 => k_is)
    (case cd9 => k_is)
    (case kd9 => k_is)
    (case ad10 => k_is)
    (case ld10 => k_is)
    (case cd10 => k_is)
    (case kd10 => k_is)
    (case ad11 => k_is)
    (case ld11 => k_is)
    (case cd11 => k_is)
    (case kd11 => k_is)
    (case ad12 => k_is)
    (case ld12 => k_is)
    (case cd12 => k_is)
    (case kd12 => k_is)
    (case ad13 => k_is)
    (case ld13 => k_is)
    (case cd13 => k_is)
    (case kd13 => k_is)
    (case ad14 => k_is)
    (case ld14 => k_is)
    (case cd14 => k_is)
    (case kd14 => k_is)
    (case ad15 => k_is)
    (case ld15 => k_is)
    (case cd15 => k_is)
    (case kd15 => k_is)
    (case ad16 => k_is)
    (case ld16 => k_is)
    (case cd16 => k_is)
    (case kd16 => k_is)
    (case ad17 => k_is)
    (case ld17 => k_is)
    (case cd17 => k_is)
    (case kd17 => k_is)
    (case ad18 => k_is)
    (case ld18 => k_is)
    (case cd18 => k_is)
    (case kd18 => k_is)
    (case ad19 => k_is)
    (case ld19 => k_is)
    (case cd19 => k_is)
    (case kd19 => k_is)
    (case ad20 => k_is)
    (case ld20 => k_is)
    (case cd20 => k_is)
    (case kd20 => k_is)
    (case n0 => k_is)
    (case t0 => refine' ⟨?a1, ?a2, ?a3, ?a4, ?a5, ?a6, ?a7, ?a8, ?a9, ?a10, ?a11⟩; (case a1 => k_is); (case a2 => rfl); (case a3 => k_is); (case a4 => k_is); (case a5 => k_is); (case a6 => k_is); (case a7 => k_is); (case a8 => k_is); (case a9 => k_is); (case a10 => k_exc); (case a11 => k_is))
    (case n1 => k_is)
    (case t1 => refine' ⟨?a1, ?a2, ?a3, ?a4, ?a5, ?a6, ?a7, ?a8, ?a9, ?a10, ?a11⟩; (case a1 => k_is); (case a2 => rfl); (case a3 => k_is); (case a4 => k_is); (case a5 => k_is); (case a6 => k_is); (case a7 => k_is); (case a8 => k_is); (case a9 => k_is); (case a10 => k_exc); (case a11 => k_is))
    (case hn => k_is)
    (case ht => k_is)
    (case z0 => k_is)
    (case z1 => k_is)
    (case z2 => k_is)
    (case z3 => k_is)
    (case z4 => k_is)
    (case z5 => k_is)
    (case z6 => k_is)
    (case z7 => k_is)
    (case z8 => k_is)
    (case z9 => k_is)
    (case z10 => k_is)
    (case z11 => k_is)
    (case z12 => k_is)
    (case z13 => k_is)
    (case z14 => k_is)
    (case z15 => k_is)
    (case z16 => k_is)
    (case z17 => k_is)
    (case v0 => k_is)
    (case w0 => k_is)
    (case x0 => exact ⟨rfl, rfl, by decide, .cons ⟨_, rfl⟩ (.cons ⟨_, rfl⟩ .nil)⟩)
    (case v1 => k_is)
    (case v2 => k_is)
    (case v3 => k_is)
    (case nd => decide +kernel)
  case Q => kernel_rfl

