import PyProof.Rows.All
import Wide.All
import OpenK.AllK
import Wide.FinOn
import HandS.ForMost
import HandS.Exc
import HandS.IsInst
import HandS.TupAny
import HandS.Style
import HandS.ExcOwn
import HandS.RaiseMore
import HandS.Gcd
import KE.KMathG
import KE.DataMinMax
import HandS.Ends
import HandS.Iter
import KE.SortData
import Flt.RightSqrt
import PySem.Challenge.RW_sixtylines_k27_whole_numbers_at_two
set_option Elab.async false
set_option linter.all false
section
set_option Elab.async false
set_option linter.all false
/-! YA: the pure part of Y: values, the list-heap, and a computable meaning for each construct. -/
namespace Y
open PySem L2

/-- values: tuples and frozen lists are pure data, what is mutable is a place of the heap -/
inductive D where
  | non | bl (b : Bool) | int (i : Int) | str (x : Str)
  | tup (xs : List D) | fl (xs : List D) | sq (xs : List D) | loc (k : Nat)

mutual
def D.beq : D → D → Bool
  | .non, .non => true
  | .bl a, .bl b => a == b
  | .int a, .int b => decide (a = b)
  | .str a, .str b => decide (a = b)
  | .tup a, .tup b => D.beqL a b
  | .fl a, .fl b => D.beqL a b
  | .sq a, .sq b => D.beqL a b
  | .loc a, .loc b => decide (a = b)
  | _, _ => false
def D.beqL : List D → List D → Bool
  | [], [] => true
  | a :: as, b :: bs => D.beq a b && D.beqL as bs
  | _, _ => false
end
mutual
theorem D.beq_refl : ∀ a : D, D.beq a a = true
  | .non => by simp [D.beq]
  | .bl b => by simp [D.beq]
  | .int i => by simp [D.beq]
  | .str x => by simp [D.beq]
  | .tup xs => by simp [D.beq, D.beqL_refl xs]
  | .fl xs => by simp [D.beq, D.beqL_refl xs]
  | .sq xs => by simp [D.beq, D.beqL_refl xs]
  | .loc k => by simp [D.beq]
theorem D.beqL_refl : ∀ a : List D, D.beqL a a = true
  | [] => by simp [D.beqL]
  | a :: as => by simp [D.beqL, D.beq_refl a, D.beqL_refl as]
end
mutual
theorem D.eq_of : ∀ (a b : D), D.beq a b = true → a = b
  | .non, b, h => by cases b <;> simp_all [D.beq]
  | .bl _, b, h => by cases b <;> simp_all [D.beq]
  | .int _, b, h => by cases b <;> simp_all [D.beq]
  | .str _, b, h => by cases b <;> simp_all [D.beq]
  | .tup xs, b, h => by
    cases b <;> simp [D.beq] at h
    rename_i ys
    rw [D.eqL_of xs ys h]
  | .fl xs, b, h => by
    cases b <;> simp [D.beq] at h
    rename_i ys
    rw [D.eqL_of xs ys h]
  | .sq xs, b, h => by
    cases b <;> simp [D.beq] at h
    rename_i ys
    rw [D.eqL_of xs ys h]
  | .loc _, b, h => by cases b <;> simp_all [D.beq]
theorem D.eqL_of : ∀ (a b : List D), D.beqL a b = true → a = b
  | [], b, h => by cases b <;> simp_all [D.beqL]
  | a :: as, b, h => by
    cases b with
    | nil => simp [D.beqL] at h
    | cons c cs =>
      simp [D.beqL] at h
      rw [D.eq_of a c h.1, D.eqL_of as cs h.2]
end
instance : DecidableEq D := fun a b => if h : D.beq a b = true then .isTrue (D.eq_of a b h) else .isFalse fun e => h (e ▸ D.beq_refl a)

/-- what is mutable -/
inductive Ob where
  | lst (xs : List D) | dct (kvs : List (Key × D))
  deriving DecidableEq
abbrev Hm := List Ob
abbrev Sl := List (Option D)
structure Exn where
  cls : Nat
  fs : List (Str × D)
/-- how an evaluation ends; bad: not served (nothing is said then) -/
inductive Rs (α : Type) where
  | ok (a : α) (h : Hm) | ex (e : Exn) (h : Hm) | bad
def Rs.bind {α β : Type} (r : Rs α) (k : α → Hm → Rs β) : Rs β := match r with
  | .ok a h => k a h
  | .ex e h => .ex e h
  | .bad => .bad
/-- within a comprehension nothing is raised -/
def Rs.bindN {α β : Type} (r : Rs α) (k : α → Hm → Rs β) : Rs β := match r with
  | .ok a h => k a h
  | _ => .bad
def ofO {α : Type} (o : Option α) (h : Hm) : Rs α := match o with
  | some a => .ok a h
  | none => .bad
abbrev Ev := Sl → Hm → Rs D
abbrev Tv := Sl → Hm → Rs Bool
/-- a list that nobody else holds yet -/
abbrev Lv := Sl → Hm → Rs (List D)
abbrev Av := Sl → Hm → Rs (List D)
inductive Out where
  | nx (σ : Sl) (h : Hm) | rt (d : D) (h : Hm) | rl (ds : List D) (h : Hm) | bk (σ : Sl) (h : Hm) | ct (σ : Sl) (h : Hm) | ex (e : Exn) (σ : Sl) (h : Hm) | bad
abbrev Sv := Sl → Hm → Out
abbrev Fn := List D → Hm → Rs D
abbrev FnL := List D → Hm → Rs (List D)

/-! ### reading -/
def lstOf (h : Hm) : D → Option (List D)
  | .fl xs => some xs
  | .sq xs => some xs
  | .loc k => match h[k]? with
    | some (.lst xs) => some xs
    | _ => none
  | _ => none
def seqOf (h : Hm) : D → Option (List D)
  | .tup xs => some xs
  | d => lstOf h d
/-- a list of the program's own making -/
def ownL (h : Hm) : D → Option (List D)
  | .fl xs => some xs
  | .loc k => match h[k]? with
    | some (.lst xs) => some xs
    | _ => none
  | _ => none
def line : Nat := 16777216
def big : Int := 18446744073709551616

/-! ### expressions -/
def eC (d : D) : Ev := fun _ h => .ok d h
def eV (i : Nat) : Ev := fun σ h => match σ[i]? with
  | some (some d) => .ok d h
  | _ => .bad
def e1 (o : Hm → D → Option D) (f : Ev) : Ev := fun σ h => (f σ h).bind fun x h1 => ofO (o h1 x) h1
def e2 (o : Hm → D → D → Option D) (f g : Ev) : Ev := fun σ h => (f σ h).bind fun x h1 => (g σ h1).bind fun y h2 => ofO (o h2 x y) h2
def aN : Av := fun _ h => .ok [] h
def aC (f : Ev) (g : Av) : Av := fun σ h => (f σ h).bind fun x h1 => (g σ h1).bind fun xs h2 => .ok (x :: xs) h2
def eTup (a : Av) : Ev := fun σ h => (a σ h).bind fun xs h1 => if xs.length ≤ line then .ok (.tup xs) h1 else .bad
def lLst (a : Av) : Lv := fun σ h => (a σ h).bind fun xs h1 => if xs.length ≤ line then .ok xs h1 else .bad
/-- a fresh list, held for good as it is -/
def eFrz (f : Lv) : Ev := fun σ h => (f σ h).bind fun xs h1 => .ok (.fl xs) h1
/-- a fresh list that will be changed -/
def eMut (f : Lv) : Ev := fun σ h => (f σ h).bind fun xs h1 => .ok (.loc h1.length) (h1 ++ [.lst xs])

/-! ### operators -/
def oAdd (h : Hm) : D → D → Option D
  | .int i, .int j => some (.int (i + j))
  | .str a, .str b => if a.length + b.length ≤ line then some (.str (a ++ b)) else none
  | .tup xs, .tup ys => if xs.length + ys.length ≤ line then some (.tup (xs ++ ys)) else none
  | x, y => match ownL h x, ownL h y with
    | some xs, some ys => if xs.length + ys.length ≤ line then some (.fl (xs ++ ys)) else none
    | _, _ => none
def oSub (_ : Hm) : D → D → Option D
  | .int i, .int j => some (.int (i - j))
  | _, _ => none
def mulOk (i j : Int) : Bool := (decide (-big < i) && decide (i < big)) || (decide (-big < j) && decide (j < big))
def oMul (_ : Hm) : D → D → Option D
  | .int i, .int j => if mulOk i j then some (.int (i * j)) else none
  | _, _ => none
def oDiv (_ : Hm) : D → D → Option D
  | .int i, .int j => if 0 < j ∧ j < 1073741824 then some (.int (i / j)) else if j < 0 ∧ -1073741824 < j then some (.int (i.fdiv j)) else none
  | _, _ => none
def oMod (_ : Hm) : D → D → Option D
  | .int i, .int j => if 0 < j then some (.int (i % j)) else if j < 0 then some (.int (i.fmod j)) else none
  | _, _ => none
def oPow (_ : Hm) : D → D → Option D
  | .int i, .int j => if 0 ≤ j ∧ j ≤ 1000000 ∧ -big < i ∧ i < big then some (.int (i ^ j.toNat)) else none
  | _, _ => none
def uNeg (_ : Hm) : D → Option D
  | .int i => some (.int (-i))
  | _ => none

/-! ### comparisons -/
mutual
/-- as plain data -/
def py (h : Hm) : D → Option PyData
  | .non => some .none
  | .bl b => some (.bool b)
  | .int i => some (.int i)
  | .str x => some (.str x)
  | .tup xs => (pyL h xs).map .tuple
  | .fl xs => (pyL h xs).map .list
  | .sq xs => (pyL h xs).map .list
  | .loc _ => none
def pyL (h : Hm) : List D → Option (List PyData)
  | [] => some []
  | x :: xs => match py h x, pyL h xs with
    | some a, some b => some (a :: b)
    | _, _ => none
end
def eqD (h : Hm) (x y : D) : Option Bool := match x, y with
  | .int i, .int j => some (decide (i = j))
  | .str i, .str j => some (decide (i = j))
  | .bl i, .bl j => some (i == j)
  | x, y => match py h x, py h y with
    | some a, some b => if SeqAt.shaped a && SeqAt.shaped b then some (PyData.eqv a b) else none
    | _, _ => none
def oEq (h : Hm) (x y : D) : Option D := (eqD h x y).map .bl
def oNe (h : Hm) (x y : D) : Option D := (eqD h x y).map fun b => .bl (!b)
def intsOf : List D → Option (List Int)
  | [] => some []
  | .int i :: r => (intsOf r).map (i :: ·)
  | _ => none
def oLt (_ : Hm) : D → D → Option D
  | .int i, .int j => some (.bl (decide (i < j)))
  | .tup xs, .tup ys => match intsOf xs, intsOf ys with
    | some a, some b => some (.bl (HT.lexLt a b))
    | _, _ => none
  | _, _ => none
def oLe (_ : Hm) : D → D → Option D
  | .int i, .int j => some (.bl (decide (i ≤ j)))
  | _, _ => none
def oGt (_ : Hm) : D → D → Option D
  | .int i, .int j => some (.bl (decide (j < i)))
  | _, _ => none
def oGe (_ : Hm) : D → D → Option D
  | .int i, .int j => some (.bl (decide (j ≤ i)))
  | _, _ => none
def isN : D → Bool
  | .non => true
  | _ => false
/-- x is None, True, False -/
def oIs (_ : Hm) : D → D → Option D
  | x, .non => some (.bl (isN x))
  | .bl a, .bl b => some (.bl (decide (a = b)))
  | _, _ => none
def oIsNot (_ : Hm) : D → D → Option D
  | x, .non => some (.bl (!isN x))
  | .bl a, .bl b => some (.bl (!decide (a = b)))
  | _, _ => none
/-- a < b < c: b once -/
def eCh (o o' : Hm → D → D → Option D) (f g k : Ev) : Ev := fun σ h => (f σ h).bind fun x h1 => (g σ h1).bind fun y h2 => match o h2 x y with
  | some (.bl true) => (k σ h2).bind fun z h3 => ofO (o' h3 y z) h3
  | some (.bl false) => .ok (.bl false) h2
  | _ => .bad

/-! ### truth -/
def truth (h : Hm) : D → Option Bool
  | .non => some false
  | .bl b => some b
  | .int i => some (decide (i ≠ 0))
  | .str x => if x.length ≤ line then some (decide (x.length ≠ 0)) else none
  | .tup xs => some (!xs.isEmpty)
  | d => (lstOf h d).map fun xs => !xs.isEmpty
/-- an expression that gives a bool, as a test -/
def tB (f : Ev) : Tv := fun σ h => (f σ h).bind fun x h1 => match x with
  | .bl b => .ok b h1
  | _ => .bad
/-- of any value -/
def tT (f : Ev) : Tv := fun σ h => (f σ h).bind fun x h1 => ofO (truth h1 x) h1
def tAnd (a b : Tv) : Tv := fun σ h => (a σ h).bind fun c h1 => if c = true then b σ h1 else .ok false h1
def tOr (a b : Tv) : Tv := fun σ h => (a σ h).bind fun c h1 => if c = true then .ok true h1 else b σ h1
def tNot (a : Tv) : Tv := fun σ h => (a σ h).bind fun c h1 => .ok (!c) h1
/-- a and b, a or b, not a, as values (all but the last a bool) -/
def eAnd (a b : Ev) : Ev := fun σ h => (a σ h).bind fun x h1 => match x with
  | .bl true => b σ h1
  | .bl false => .ok (.bl false) h1
  | _ => .bad
def eOr (a b : Ev) : Ev := fun σ h => (a σ h).bind fun x h1 => match x with
  | .bl false => b σ h1
  | .bl true => .ok (.bl true) h1
  | _ => .bad
def uNot (_ : Hm) : D → Option D
  | .bl b => some (.bl (!b))
  | _ => none
def eIf (c : Tv) (a b : Ev) : Ev := fun σ h => (c σ h).bind fun t h1 => if t = true then a σ h1 else b σ h1

/-! ### places -/
def ixD (h : Hm) : D → D → Option D
  | .str x, .int i => if x.length ≤ line then (atI x.cps.toList i).map fun c => .str ⟨#[c]⟩ else none
  | d, .int i => (seqOf h d).bind fun xs => atI xs i
  | _, _ => none
def keyOf : D → Option Key
  | .int i => some (.inl i)
  | .str x => some (.inr x)
  | _ => none
def dctOf (h : Hm) : D → Option (List (Key × D))
  | .loc k => match h[k]? with
    | some (.dct kvs) => some kvs
    | _ => none
  | _ => none
def getK (kvs : List (Key × D)) (k : Key) : Option D := (kvs.find? fun kv => decide (kv.1 = k)).map (·.2)
def setK (kvs : List (Key × D)) (k : Key) (v : D) : List (Key × D) :=
  if (kvs.any fun kv => decide (kv.1 = k)) = true then kvs.map (fun kv => if kv.1 = k then (kv.1, v) else kv) else kvs ++ [(k, v)]
def oDget (h : Hm) (x y : D) : Option D := match dctOf h x, keyOf y with
  | some kvs, some k => getK kvs k
  | _, _ => none
/-- x[y] -/
def oIx (h : Hm) (x y : D) : Option D := match dctOf h x with
  | some _ => oDget h x y
  | none => ixD h x y
/-- isinstance of a built-in class -/
inductive Ty where | int | bool | tuple | list | str | dict
def instD (h : Hm) : Ty → D → Option Bool
  | .int, d => match d with | .int _ => some true | .bl _ => some true | .loc k => (h[k]?).map fun _ => false | _ => some false
  | .bool, d => match d with | .bl _ => some true | .loc k => (h[k]?).map fun _ => false | _ => some false
  | .str, d => match d with | .str _ => some true | .loc k => (h[k]?).map fun _ => false | _ => some false
  | .tuple, d => match d with | .tup _ => some true | .loc k => (h[k]?).map fun _ => false | _ => some false
  | .list, d => match d with | .fl _ => some true | .sq _ => some true | .loc k => (match h[k]? with | some (.lst _) => some true | some (.dct _) => some false | none => none) | _ => some false
  | .dict, d => match d with | .loc k => (match h[k]? with | some (.lst _) => some false | some (.dct _) => some true | none => none) | _ => some false
def eIs (T : Ty) (f : Ev) : Ev := e1 (fun h x => (instD h T x).map .bl) f

/-! ### calls -/
def bLen (h : Hm) : List D → Option D
  | [.str x] => if x.length ≤ line then some (.int x.length) else none
  | [d] => (seqOf h d).map fun xs => .int xs.length
  | _ => none
def bInt (_ : Hm) : List D → Option D
  | [.int i] => some (.int i)
  | [.bl b] => some (.int (if b then 1 else 0))
  | _ => none
def bAbs (_ : Hm) : List D → Option D
  | [.int i] => some (.int (if i < 0 then -i else i))
  | _ => none
def bools : List D → Option (List Bool)
  | [] => some []
  | .bl b :: r => (bools r).map (b :: ·)
  | _ => none
def bAll (h : Hm) : List D → Option D
  | [d] => match (lstOf h d).bind bools with
    | some bs => some (.bl (bs.all id))
    | none => none
  | _ => none
def bAny (h : Hm) : List D → Option D
  | [d] => match (lstOf h d).bind bools with
    | some bs => some (.bl (bs.any id))
    | none => none
  | _ => none
def bSum (h : Hm) : List D → Option D
  | [d] => match (lstOf h d).bind intsOf with
    | some ns => some (.int ns.sum)
    | none => none
  | _ => none
/-- f(..), f a built-in that makes nothing -/
def eB (o : Hm → List D → Option D) (a : Av) : Ev := fun σ h => (a σ h).bind fun xs h1 => ofO (o h1 xs) h1
/-- f(..), f a built-in that makes a list, a tuple -/
def lB (o : Hm → List D → Option (List D)) (a : Av) : Lv := fun σ h => (a σ h).bind fun xs h1 => ofO (o h1 xs) h1
def mList (h : Hm) : List D → Option (List D)
  | [d] => seqOf h d
  | _ => none
def bTuple (h : Hm) : List D → Option D
  | [.tup xs] => some (.tup xs)
  | [d] => (lstOf h d).map .tup
  | _ => none
/-- the same of a list that was just made (all, any, sum, tuple, len, sorted ..) -/
def eBL (o : List D → Option D) (f : Lv) : Ev := fun σ h => (f σ h).bind fun xs h1 => ofO (o xs) h1
def eCall (F : Fn) (a : Av) : Ev := fun σ h => (a σ h).bind fun xs h1 => F xs h1
def lCall (F : FnL) (a : Av) : Lv := fun σ h => (a σ h).bind fun xs h1 => F xs h1

/-! ### targets, loops, comprehensions -/
abbrev Gv := D → Sl → Option Sl
def gN (i : Nat) : Gv := fun d σ => some (σ.set i (some d))
def gTs : List Gv → List D → Sl → Option Sl
  | [], [], σ => some σ
  | g :: gs, d :: ds, σ => (g d σ).bind (gTs gs ds)
  | _, _, _ => none
def gT (gs : List Gv) : Gv := fun d σ => match d with
  | .tup xs => gTs gs xs σ
  | _ => none
def unset (σ : Sl) : List Nat → Sl
  | [] => σ
  | v :: vs => (unset σ vs).set v none
/-- what a for or a comprehension walks: its items -/
abbrev Iv := Sl → Hm → Rs (List D)
def iT (f : Ev) : Iv := fun σ h => (f σ h).bind fun x h1 => match x with
  | .tup xs => .ok xs h1
  | _ => .bad
def iF (f : Ev) : Iv := fun σ h => (f σ h).bind fun x h1 => match x with
  | .fl xs => .ok xs h1
  | .sq xs => .ok xs h1
  | _ => .bad
def small (i : Int) : Bool := decide (-4611686018427387904 ≤ i) && decide (i < 4611686018427387904)
def rangeD (lo : Int) (n : Nat) : List D := (List.range n).map fun i => .int (lo + (i : Nat))
def iR1 (a : Av) : Iv := fun σ h => (a σ h).bind fun xs h1 => match xs with
  | [.int j] => if small j then .ok (rangeD 0 j.toNat) h1 else .bad
  | _ => .bad
def iR2 (a : Av) : Iv := fun σ h => (a σ h).bind fun xs h1 => match xs with
  | [.int i, .int j] => if small i && small j then .ok (rangeD i (j - i).toNat) h1 else .bad
  | _ => .bad
def forL (g : Gv) (b : Sv) : List D → Sv
  | [], σ, h => .nx σ h
  | d :: ds, σ, h => match g d σ with
    | none => .bad
    | some σ1 => match b σ1 h with
      | .nx σ2 h2 => forL g b ds σ2 h2
      | .ct σ2 h2 => forL g b ds σ2 h2
      | .bk σ2 h2 => .nx σ2 h2
      | o => o
def compL (g : Gv) (c : Tv) (e : Ev) (σ : Sl) : List D → Hm → Rs (List D)
  | [], h => .ok [] h
  | d :: ds, h => match g d σ with
    | none => .bad
    | some σ1 => (c σ1 h).bindN fun t h1 => if t = true then (e σ1 h1).bindN fun y h2 => (compL g c e σ ds h2).bindN fun ys h3 => .ok (y :: ys) h3 else compL g c e σ ds h1
def tYes : Tv := fun _ h => .ok true h
/-- [e for g in it if c], its own names at vs -/
def lComp (it : Iv) (g : Gv) (c : Tv) (e : Ev) (vs : List Nat) : Lv := fun σ h => (it σ h).bind fun ds h1 => (compL g c e (unset σ vs) ds h1).bind fun ys h2 => if ys.length ≤ line then .ok ys h2 else .bad

/-! ### statements -/
def sPass : Sv := fun σ h => .nx σ h
def sBk : Sv := fun σ h => .bk σ h
def sCt : Sv := fun σ h => .ct σ h
def sNever : Sv := fun _ _ => .bad
def sSeq (a b : Sv) : Sv := fun σ h => match a σ h with
  | .nx σ1 h1 => b σ1 h1
  | o => o
/-- an evaluation within a statement -/
def Rs.out {α : Type} (r : Rs α) (σ : Sl) (k : α → Hm → Out) : Out := match r with
  | .ok a h => k a h
  | .ex e h => .ex e σ h
  | .bad => .bad
def outO (o : Option Sl) (h : Hm) : Out := match o with
  | some σ => .nx σ h
  | none => .bad
def sIf (c : Tv) (a b : Sv) : Sv := fun σ h => (c σ h).out σ fun t h1 => if t = true then a σ h1 else b σ h1
def sRet (f : Ev) : Sv := fun σ h => (f σ h).out σ fun d h1 => .rt d h1
def sRetL (f : Lv) : Sv := fun σ h => (f σ h).out σ fun d h1 => .rl d h1
def sRetN : Sv := fun _ h => .rt .non h
def sAsg (g : Gv) (f : Ev) : Sv := fun σ h => (f σ h).out σ fun d h1 => outO (g d σ) h1
def sExpr (f : Ev) : Sv := fun σ h => (f σ h).out σ fun _ h1 => .nx σ h1
/-- a, b = x, y -/
def sPar (i j : Nat) (a : Av) : Sv := fun σ h => (a σ h).out σ fun xs h1 => match xs with
  | [x, y] => .nx ((σ.set i (some x)).set j (some y)) h1
  | _ => .bad
/-- o[k] = v, by values -/
def setD (h : Hm) : D → D → D → Option Hm
  | .loc p, k, v => match h[p]? with
    | some (.dct kvs) => match keyOf k with
      | some k => if kvs.length < line then some (h.set p (.dct (setK kvs k v))) else none
      | none => none
    | some (.lst xs) => match k with
      | .int i => (ixN xs.length i).map fun j => h.set p (.lst (xs.set j v))
      | _ => none
    | none => none
  | _, _, _ => none
/-- o[k] = e -/
def sStore (fo fk fe : Ev) : Sv := fun σ h => (fe σ h).out σ fun v h1 => (fo σ h1).out σ fun o h2 => (fk σ h2).out σ fun k h3 => match setD h3 o k v with
  | some h4 => .nx σ h4
  | none => .bad
/-- o.append(e) -/
def isLst (h : Hm) : D → Bool
  | .loc p => match h[p]? with
    | some (.lst _) => true
    | _ => false
  | _ => false
def appD (h : Hm) : D → D → Option Hm
  | .loc p, v => match h[p]? with
    | some (.lst xs) => if xs.length < line then some (h.set p (.lst (xs ++ [v]))) else none
    | _ => none
  | _, _ => none
def sApp (fo fe : Ev) : Sv := fun σ h => (fo σ h).out σ fun o h1 => if isLst h1 o = true then (fe σ h1).out σ fun v h2 => match appD h2 o v with
  | some h3 => .nx σ h3
  | none => .bad
  else .bad
/-- x op= e, x a name -/
def sAug (i : Nat) (o : Hm → D → D → Option D) (f : Ev) : Sv := fun σ h => match σ[i]? with
  | some (some x) => (f σ h).out σ fun y h1 => match o h1 x y with
    | some z => .nx (σ.set i (some z)) h1
    | none => .bad
  | _ => .bad
def sFor (it : Iv) (g : Gv) (b : Sv) : Sv := fun σ h => (it σ h).out σ fun ds h1 => forL g b ds σ h1
def whileL (c : Tv) (b : Sv) : Nat → Sv
  | 0, _, _ => .bad
  | n + 1, σ, h => match c σ h with
    | .ok t h1 => if t = true then (match b σ h1 with
      | .nx σ2 h2 => whileL c b n σ2 h2
      | .ct σ2 h2 => whileL c b n σ2 h2
      | .bk σ2 h2 => .nx σ2 h2
      | o => o) else .nx σ h1
    | .ex e h1 => .ex e σ h1
    | .bad => .bad
def sWhile (c : Tv) (b : Sv) : Sv := fun σ h => whileL c b 1000000000000 σ h
/-- {k: v, ..}, written, that will be changed -/
def mergeD (kvs more : List (Key × D)) : List (Key × D) := more.foldl (fun acc kv => setK acc kv.1 kv.2) kvs
def kvsOf : List D → Option (List (Key × D))
  | [] => some []
  | k :: v :: r => match keyOf k, kvsOf r with
    | some k, some l => some ((k, v) :: l)
    | _, _ => none
  | _ => none
def pN : Av := fun _ h => .ok [] h
def pC (f g : Ev) (r : Av) : Av := fun σ h => (f σ h).bind fun k h1 => (g σ h1).bind fun v h2 => (r σ h2).bind fun l h3 => .ok (k :: v :: l) h3
def eDct (a : Av) : Ev := fun σ h => (a σ h).bind fun l h1 => match kvsOf l with
  | some kvs => if kvs.length ≤ 15 then .ok (.loc h1.length) (h1 ++ [.dct (mergeD [] kvs)]) else .bad
  | none => .bad

/-! ### a def -/
mutual
def D.low (n : Nat) : D → Bool
  | .loc k => decide (k < n)
  | .tup xs => D.lowL n xs
  | .fl xs => D.lowL n xs
  | .sq xs => D.lowL n xs
  | _ => true
def D.lowL (n : Nat) : List D → Bool
  | [] => true
  | d :: ds => D.low n d && D.lowL n ds
end
def Ob.low (n : Nat) : Ob → Bool
  | .lst xs => D.lowL n xs
  | .dct kvs => D.lowL n (kvs.map (·.2))
/-- the elder objects name no younger one -/
def sealed (n : Nat) (h0 h' : Hm) : Bool := ((h'.take n).zip h0).all fun p => decide (p.1 = p.2) || Ob.low n p.1
/-- a def's end: what it made for itself is forgotten -/
def finP (h0 : Hm) (d : D) (h' : Hm) : Rs D :=
  if h'.length = h0.length then .ok d h' else if D.low h0.length d && sealed h0.length h0 h' && decide (h0.length ≤ h'.length) then .ok d (h'.take h0.length) else .bad
/-- .. it hands back an object of its own -/
def finK (_ : Hm) (d : D) (h' : Hm) : Rs D := .ok d h'
/-- .. it hands back a list of its own that nobody else holds -/
def finL (h0 : Hm) (o : Out) : Rs (List D) := match o with
  | .rl ds h' => if h'.length = h0.length then .ok ds h' else if D.lowL h0.length ds && sealed h0.length h0 h' && decide (h0.length ≤ h'.length) then .ok ds (h'.take h0.length) else .bad
  | .rt (.loc k) h' => match h'[k]? with
    | some (.lst ds) => if D.lowL h0.length ds && sealed h0.length h0 h' && decide (h0.length ≤ k) then .ok ds (h'.take h0.length) else .bad
    | _ => .bad
  | .ex e _ h' => .ex e h'
  | _ => .bad
def startD (n : Nat) (ds : List D) : Sl := ds.map some ++ List.replicate (n - ds.length) none
def fnP (n : Nat) (b : Sv) : Fn := fun ds h => match b (startD n ds) h with
  | .rt d h' => finP h d h'
  | .nx _ h' => finP h .non h'
  | .ex e _ h' => .ex e h'
  | _ => .bad
def fnK (n : Nat) (b : Sv) : Fn := fun ds h => match b (startD n ds) h with
  | .rt d h' => .ok d h'
  | .nx _ h' => .ok .non h'
  | .ex e _ h' => .ex e h'
  | _ => .bad
def fnL (n : Nat) (b : Sv) : FnL := fun ds h => finL h (b (startD n ds) h)
end Y
end

section
set_option Elab.async false
set_option linter.all false
set_option maxRecDepth 100000
set_option maxHeartbeats 2000000
/-! YB: how Y's values stand in HandS's abstract heap; the judgements over Y. -/
namespace Y
open PySem PySem.Spec PyProof.Rows L2

/-- what never changes stands on -/
structure Per (H H' : Hp) : Prop where
  tup : ∀ b xs, H b = some (.tup xs) → H' b = some (.tup xs)
  frz : ∀ b o u, H b = some (.frz o u) → H' b = some (.frz o u)
theorem Per.refl (H : Hp) : Per H H := ⟨fun _ _ h => h, fun _ _ _ h => h⟩
theorem Per.trans {H H1 H2 : Hp} (a : Per H H1) (b : Per H1 H2) : Per H H2 := ⟨fun c xs h => b.tup c xs (a.tup c xs h), fun c o u h => b.frz c o u (a.frz c o u h)⟩
theorem Per.new {H : Hp} {p : Addr} {o : HO} (h : H p = none) : Per H (upd H p o) :=
  ⟨fun b xs e => by rw [upd_ne (ne_of_none e h)]; exact e, fun b u xs e => by rw [upd_ne (ne_of_none e h)]; exact e⟩
def mutO : HO → Bool
  | .lst _ => true
  | .dK _ => true
  | .ins _ _ _ => true
  | _ => false
theorem Per.wr {H : Hp} {p : Addr} {o o' : HO} (h : H p = some o) (m : mutO o = true) : Per H (upd H p o') := by
  constructor
  · intro b xs e
    have : b ≠ p := fun z => by rw [z, h] at e; cases e; cases m
    rw [upd_ne this]; exact e
  · intro b u xs e
    have : b ≠ p := fun z => by rw [z, h] at e; cases e; cases m
    rw [upd_ne this]; exact e

/-- a list that is frozen: known to the object, or the module's own -/
def FzL (K : PySem.W.Frag) (H : Hp) (a : Addr) (xs : List V) : Prop := (∃ o, H a = some (.frz o (.lst xs))) ∨ SqL K (fun _ => none) a xs
theorem FzL.sq {K : PySem.W.Frag} {H : Hp} {a : Addr} {xs : List V} (h : FzL K H a xs) : SqL K H a xs := by
  rcases h with ⟨o, h⟩ | h
  · exact .inl (.inr ⟨o, h⟩)
  · rcases h with (h | ⟨_, h⟩) | h
    · cases h
    · cases h
    · exact .inr h
theorem FzL.per {K : PySem.W.Frag} {H H' : Hp} {a : Addr} {xs : List V} (h : FzL K H a xs) (p : Per H H') : FzL K H' a xs := by
  rcases h with ⟨o, h⟩ | h
  · exact .inl ⟨o, p.frz _ _ _ h⟩
  · exact .inr h
theorem SqT.per {K : PySem.W.Frag} {H H' : Hp} {a : Addr} {xs : List V} (h : SqT K H a xs) (p : Per H H') : SqT K H' a xs := by
  rcases h with (h | ⟨o, h⟩) | h
  · exact .inl (.inl (p.tup _ _ h))
  · exact .inl (.inr ⟨o, p.frz _ _ _ h⟩)
  · exact .inr h

mutual
inductive Rep (K : PySem.W.Frag) (φ : List Addr) (H : Hp) : D → V → Prop
  | non : Rep K φ H .non .non
  | bl (b : Bool) : Rep K φ H (.bl b) (.bl b)
  | int (i : Int) : Rep K φ H (.int i) (.int i)
  | str (x : Str) : Rep K φ H (.str x) (.str x)
  | tup {a : Addr} {ds : List D} {vs : List V} (h : SqT K H a vs) (r : RepL K φ H ds vs) : Rep K φ H (.tup ds) (.ref a)
  | fl {a : Addr} {o : Obj} {ds : List D} {vs : List V} (h : H a = some (.frz o (.lst vs))) (r : RepL K φ H ds vs) : Rep K φ H (.fl ds) (.ref a)
  | sq {a : Addr} {ds : List D} {vs : List V} (h : FzL K H a vs) (r : RepL K φ H ds vs) : Rep K φ H (.sq ds) (.ref a)
  | loc {k : Nat} {a : Addr} (h : φ[k]? = some a) : Rep K φ H (.loc k) (.ref a)
inductive RepL (K : PySem.W.Frag) (φ : List Addr) (H : Hp) : List D → List V → Prop
  | nil : RepL K φ H [] []
  | cons {d : D} {v : V} {ds : List D} {vs : List V} (h : Rep K φ H d v) (r : RepL K φ H ds vs) : RepL K φ H (d :: ds) (v :: vs)
end
section
variable {K : PySem.W.Frag} {φ φ' : List Addr} {H H' : Hp}
theorem pre_get {k : Nat} {a : Addr} (p : φ <+: φ') (h : φ[k]? = some a) : φ'[k]? = some a := by
  obtain ⟨t, rfl⟩ := p
  rw [List.getElem?_append_left (List.getElem?_eq_some_iff.mp h).1]
  exact h
mutual
theorem Rep.mono (p : φ <+: φ') (q : Per H H') : ∀ (d : D) (v : V), Rep K φ H d v → Rep K φ' H' d v
  | .non, _, h => by cases h; exact .non
  | .bl b, _, h => by cases h; exact .bl b
  | .int b, _, h => by cases h; exact .int b
  | .str b, _, h => by cases h; exact .str b
  | .tup ds, _, h => by
    cases h with
    | tup h r => exact .tup (SqT.per h q) (RepL.mono p q ds _ r)
  | .fl ds, _, h => by
    cases h with
    | fl h r => exact .fl (q.frz _ _ _ h) (RepL.mono p q ds _ r)
  | .sq ds, _, h => by
    cases h with
    | sq h r => exact .sq (h.per q) (RepL.mono p q ds _ r)
  | .loc k, _, h => by
    cases h with
    | loc h => exact .loc (pre_get p h)
theorem RepL.mono (p : φ <+: φ') (q : Per H H') : ∀ (d : List D) (v : List V), RepL K φ H d v → RepL K φ' H' d v
  | [], _, h => by cases h; exact .nil
  | d :: ds, _, h => by
    cases h with
    | cons h r => exact .cons (Rep.mono p q d _ h) (RepL.mono p q ds _ r)
end
mutual
/-- what names no younger place -/
theorem Rep.cut (n : Nat) : ∀ (d : D) (v : V), D.low n d = true → Rep K φ H d v → Rep K (φ.take n) H d v
  | .non, _, _, h => by cases h; exact .non
  | .bl b, _, _, h => by cases h; exact .bl b
  | .int b, _, _, h => by cases h; exact .int b
  | .str b, _, _, h => by cases h; exact .str b
  | .tup ds, _, l, h => by
    cases h with
    | tup h r => exact .tup h (RepL.cut n ds _ (by simpa [D.low] using l) r)
  | .fl ds, _, l, h => by
    cases h with
    | fl h r => exact .fl h (RepL.cut n ds _ (by simpa [D.low] using l) r)
  | .sq ds, _, l, h => by
    cases h with
    | sq h r => exact .sq h (RepL.cut n ds _ (by simpa [D.low] using l) r)
  | .loc k, _, l, h => by
    cases h with
    | loc h =>
      have : k < n := by simpa [D.low] using l
      exact .loc (by rw [List.getElem?_take_of_lt this]; exact h)
theorem RepL.cut (n : Nat) : ∀ (d : List D) (v : List V), D.lowL n d = true → RepL K φ H d v → RepL K (φ.take n) H d v
  | [], _, _, h => by cases h; exact .nil
  | d :: ds, _, l, h => by
    simp [D.lowL] at l
    cases h with
    | cons h r => exact .cons (Rep.cut n d _ l.1 h) (RepL.cut n ds _ l.2 r)
end
theorem RepL.length : ∀ {ds : List D} {vs : List V}, RepL K φ H ds vs → ds.length = vs.length
  | [], _, h => by cases h; rfl
  | d :: ds, _, h => by
    cases h with
    | cons _ r => simp [RepL.length r]
theorem RepL.get : ∀ {ds : List D} {vs : List V} {i : Nat} {d : D}, RepL K φ H ds vs → ds[i]? = some d → ∃ v, vs[i]? = some v ∧ Rep K φ H d v
  | [], _, _, _, _, e => by simp at e
  | c :: ds, _, 0, d, h, e => by
    cases h with
    | cons q _ => exact ⟨_, rfl, by simp at e; exact e ▸ q⟩
  | c :: ds, _, i + 1, d, h, e => by
    cases h with
    | cons _ r =>
      obtain ⟨v, h1, h2⟩ := RepL.get (i := i) r (by simpa using e)
      exact ⟨v, by simpa using h1, h2⟩
theorem RepL.get' : ∀ {ds : List D} {vs : List V} {i : Nat} {v : V}, RepL K φ H ds vs → vs[i]? = some v → ∃ d, ds[i]? = some d ∧ Rep K φ H d v
  | _, [], _, _, _, e => by simp at e
  | _, c :: vs, 0, v, h, e => by
    cases h with
    | cons q _ => exact ⟨_, rfl, by simp at e; exact e ▸ q⟩
  | _, c :: vs, i + 1, v, h, e => by
    cases h with
    | cons _ r =>
      obtain ⟨d, h1, h2⟩ := RepL.get' (i := i) r (by simpa using e)
      exact ⟨d, by simpa using h1, h2⟩
theorem RepL.append : ∀ {ds es : List D} {vs us : List V}, RepL K φ H ds vs → RepL K φ H es us → RepL K φ H (ds ++ es) (vs ++ us)
  | [], _, _, _, h, q => by cases h; exact q
  | _ :: _, _, _, _, h, q => by
    cases h with
    | cons h r => exact .cons h (RepL.append r q)
theorem RepL.set {d : D} {v : V} (h : Rep K φ H d v) : ∀ {ds : List D} {vs : List V} (i : Nat), RepL K φ H ds vs → RepL K φ H (ds.set i d) (vs.set i v)
  | [], _, _, r => by cases r; exact .nil
  | _ :: _, _, 0, r => by
    cases r with
    | cons _ r => exact .cons h r
  | _ :: _, _, i + 1, r => by
    cases r with
    | cons q r => exact .cons q (RepL.set h i r)
theorem RepL.nil_iff {ds : List D} {vs : List V} (r : RepL K φ H ds vs) : ds = [] ↔ vs = [] := by
  cases r <;> simp
theorem RepL.empty {ds : List D} {vs : List V} (r : RepL K φ H ds vs) : vs.isEmpty = ds.isEmpty := by
  cases r <;> rfl
theorem RepL.intsOf : ∀ {ds : List D} {vs : List V} {ns : List Int}, RepL K φ H ds vs → intsOf ds = some ns → vs = ns.map V.int
  | [], _, ns, h, e => by
    cases h
    simp [Y.intsOf] at e
    subst e; rfl
  | d :: ds, _, ns, h, e => by
    cases h with
    | cons h r =>
      cases d <;> simp [Y.intsOf] at e
      obtain ⟨a, ha, rfl⟩ := e
      cases h
      rw [RepL.intsOf r ha]; rfl
theorem RepL.bools : ∀ {ds : List D} {vs : List V} {ns : List Bool}, RepL K φ H ds vs → bools ds = some ns → vs = ns.map V.bl
  | [], _, ns, h, e => by
    cases h
    simp [Y.bools] at e
    subst e; rfl
  | d :: ds, _, ns, h, e => by
    cases h with
    | cons h r =>
      cases d <;> simp [Y.bools] at e
      obtain ⟨a, ha, rfl⟩ := e
      cases h
      rw [RepL.bools r ha]; rfl

/-- a dict's pairs -/
abbrev RepK (K : PySem.W.Frag) (φ : List Addr) (H : Hp) : List (Key × D) → List (Key × V) → Prop := Paired fun p q => p.1 = q.1 ∧ Rep K φ H p.2 q.2
theorem RepK.mono (p : φ <+: φ') (q : Per H H') {a : List (Key × D)} {b : List (Key × V)} (r : RepK K φ H a b) : RepK K φ' H' a b := Paired.mapP r fun _ _ z => ⟨z.1, Rep.mono p q _ _ z.2⟩
theorem RepK.get {a : List (Key × D)} {b : List (Key × V)} (r : RepK K φ H a b) (k : Key) : (getK a k = none ∧ valV b k = none) ∨ ∃ d v, getK a k = some d ∧ valV b k = some v ∧ Rep K φ H d v := by
  induction r with
  | nil => exact .inl ⟨rfl, rfl⟩
  | @cons p q a b h _ ih =>
    by_cases e : p.1 = k
    · exact .inr ⟨p.2, q.2, by simp [getK, List.find?_cons, e], by simp [valV, List.find?_cons, ← h.1, e], h.2⟩
    · have e1 : getK (p :: a) k = getK a k := by simp [getK, List.find?_cons, e]
      have e2 : valV (q :: b) k = valV b k := valV_neg (by rw [← h.1]; exact e)
      rw [e1, e2]
      exact ih
theorem RepK.any {a : List (Key × D)} {b : List (Key × V)} (r : RepK K φ H a b) (k : Key) : (a.any fun kv => decide (kv.1 = k)) = (b.any fun kv => decide (kv.1 = k)) := by
  induction r with
  | nil => rfl
  | @cons p q a b h _ ih => simp only [List.any_cons, ih, h.1]
theorem RepK.map {a : List (Key × D)} {b : List (Key × V)} (r : RepK K φ H a b) (k : Key) {d : D} {v : V} (h : Rep K φ H d v) :
    RepK K φ H (a.map fun kv => if kv.1 = k then (kv.1, d) else kv) (b.map fun kv => if kv.1 = k then (kv.1, v) else kv) := by
  induction r with
  | nil => exact .nil
  | @cons p q a b z _ ih =>
    refine .cons ?_ ih
    by_cases e : p.1 = k
    · have e' : q.1 = k := by rw [← z.1]; exact e
      simp only [if_pos e, if_pos e']
      exact ⟨z.1, h⟩
    · have e' : ¬ q.1 = k := by rw [← z.1]; exact e
      simp only [if_neg e, if_neg e']
      exact z
theorem Paired.app {α β : Type} {F : α → β → Prop} : ∀ {a : List α} {b : List β} {c : List α} {d : List β}, Paired F a b → Paired F c d → Paired F (a ++ c) (b ++ d)
  | _, _, _, _, .nil, h => h
  | _, _, _, _, .cons r t, h => .cons r (Paired.app t h)
theorem RepK.set {a : List (Key × D)} {b : List (Key × V)} (r : RepK K φ H a b) (k : Key) {d : D} {v : V} (h : Rep K φ H d v) : RepK K φ H (setK a k d) (putK b k v) := by
  unfold setK putK
  rw [r.any k]
  split
  · exact r.map k h
  · exact Paired.app r (.cons ⟨rfl, h⟩ .nil)

/-- an object of the list-heap, at its address -/
inductive ObR (K : PySem.W.Frag) (φ : List Addr) (H : Hp) (a : Addr) : Ob → Prop
  | lst {xs : List D} {vs : List V} (h : H a = some (.lst vs)) (r : RepL K φ H xs vs) : ObR K φ H a (.lst xs)
  | dct {xs : List (Key × D)} {vs : List (Key × V)} (h : H a = some (.dK vs)) (r : RepK K φ H xs vs) : ObR K φ H a (.dct xs)
structure HR (K : PySem.W.Frag) (φ : List Addr) (H : Hp) (h : Hm) : Prop where
  len : φ.length = h.length
  nd : φ.Nodup
  ob : ∀ (k : Nat) a o, φ[k]? = some a → h[k]? = some o → ObR K φ H a o
/-- later: ours may have changed, some have come; all else stands -/
structure Lat (φ : List Addr) (H : Hp) (φ' : List Addr) (H' : Hp) : Prop where
  pre : φ <+: φ'
  per : Per H H'
  keep : ∀ b o, H b = some o → b ∉ φ → H' b = some o
  fresh : ∀ b ∈ φ', b ∈ φ ∨ H b = none
theorem Lat.refl (φ : List Addr) (H : Hp) : Lat φ H φ H := ⟨List.prefix_refl _, Per.refl _, fun _ _ h _ => h, fun _ h => .inl h⟩
theorem Lat.out {b : Addr} {o : HO} (a : Lat φ H φ' H') (h : H b = some o) (n : b ∉ φ) : b ∉ φ' := fun m => by
  rcases a.fresh b m with z | z
  · exact n z
  · rw [h] at z; cases z
theorem Lat.trans {φ1 φ2 : List Addr} {H1 H2 : Hp} (a : Lat φ H φ1 H1) (b : Lat φ1 H1 φ2 H2) : Lat φ H φ2 H2 := by
  refine ⟨a.pre.trans b.pre, a.per.trans b.per, fun c o h n => b.keep c o (a.keep c o h n) (a.out h n), fun c m => ?_⟩
  rcases b.fresh c m with z | z
  · exact a.fresh c z
  · cases e : H c with
    | none => exact .inr rfl
    | some o =>
      by_cases n : c ∈ φ
      · exact .inl n
      · rw [a.keep c o e n] at z; cases z
theorem Lat.new {p : Addr} {v : HO} (e : H p = none) : Lat φ H φ (upd H p v) := ⟨List.prefix_refl _, Per.new e, fun b o h _ => by rw [upd_ne (ne_of_none h e)]; exact h, fun _ h => .inl h⟩
theorem Lat.wr {p : Addr} {u v : HO} (e : H p = some u) (m : mutO u = true) (i : p ∈ φ) : Lat φ H φ (upd H p v) :=
  ⟨List.prefix_refl _, Per.wr e m, fun b o h n => by rw [upd_ne (fun z => by subst z; exact n i)]; exact h, fun _ h => .inl h⟩
theorem ObR.tr {a : Addr} {o : Ob} (x : ObR K φ H a o) (p : φ <+: φ') (q : Per H H') (e : H' a = H a) : ObR K φ' H' a o := by
  cases x with
  | lst h r => exact .lst (e.trans h) (RepL.mono p q _ _ r)
  | dct h r => exact .dct (e.trans h) (r.mono p q)
theorem ObR.some {a : Addr} {o : Ob} (x : ObR K φ H a o) : ∃ u, H a = some u ∧ mutO u = true := by
  cases x with
  | lst h r => exact ⟨_, h, rfl⟩
  | dct h r => exact ⟨_, h, rfl⟩
theorem HR.at {h : Hm} (x : HR K φ H h) {k : Nat} {a : Addr} (e : φ[k]? = some a) : ∃ o, h[k]? = some o ∧ ObR K φ H a o := by
  have lt : k < h.length := by rw [← x.len]; exact (List.getElem?_eq_some_iff.mp e).1
  exact ⟨h[k], List.getElem?_eq_getElem lt, x.ob k a _ e (List.getElem?_eq_getElem lt)⟩
/-- something new that is not tracked by us -/
theorem HR.new {h : Hm} (x : HR K φ H h) {p : Addr} {o : HO} (n : H p = none) : HR K φ (upd H p o) h := by
  refine ⟨x.len, x.nd, fun k a u e1 e2 => ?_⟩
  obtain ⟨w, hw, _⟩ := (x.ob k a u e1 e2).some
  exact (x.ob k a u e1 e2).tr (List.prefix_refl _) (Per.new n) (upd_ne (ne_of_none hw n))
theorem HR.add {h : Hm} (x : HR K φ H h) {p : Addr} {o : Ob} (n : p ∉ φ) (q : ObR K (φ ++ [p]) H p o) : HR K (φ ++ [p]) H (h ++ [o]) := by
  refine ⟨by simp [x.len], ?_, fun k a u e1 e2 => ?_⟩
  · rw [List.nodup_append]
    refine ⟨x.nd, by simp, fun a ha b hb => ?_⟩
    simp at hb
    subst hb
    exact fun e => n (e ▸ ha)
  · by_cases lt : k < h.length
    · rw [List.getElem?_append_left (by rw [x.len]; exact lt)] at e1
      rw [List.getElem?_append_left lt] at e2
      exact (x.ob k a u e1 e2).tr (List.prefix_append _ _) (Per.refl _) rfl
    · have hk : k = h.length := by
        have := (List.getElem?_eq_some_iff.mp e2).1
        simp at this
        omega
      subst hk
      rw [List.getElem?_append_right (by rw [x.len]; exact Nat.le_refl _)] at e1
      rw [List.getElem?_append_right (Nat.le_refl _)] at e2
      simp [x.len] at e1 e2
      subst e1; subst e2
      exact q
theorem HR.notin {h : Hm} (x : HR K φ H h) {p : Addr} (n : H p = none) : p ∉ φ := fun m => by
  obtain ⟨k, e⟩ := List.getElem?_of_mem m
  obtain ⟨o, _, q⟩ := x.at e
  obtain ⟨u, hu, _⟩ := q.some
  rw [n] at hu; cases hu
/-- one of ours is written -/
theorem HR.wr {h : Hm} (x : HR K φ H h) {k : Nat} {p : Addr} {o : Ob} {u : HO} (e : φ[k]? = some p) (q : ObR K φ (upd H p u) p o) : HR K φ (upd H p u) (h.set k o) := by
  obtain ⟨w, e2, hw⟩ := x.at e
  obtain ⟨v, hv, m⟩ := hw.some
  refine ⟨by simp [x.len], x.nd, fun j a y f1 f2 => ?_⟩
  by_cases hj : j = k
  · subst hj
    rw [e] at f1; cases f1
    rw [List.getElem?_set_self (by rw [← x.len]; exact (List.getElem?_eq_some_iff.mp e).1)] at f2
    cases f2
    exact q
  · rw [List.getElem?_set_ne (Ne.symm hj)] at f2
    have ne : a ≠ p := fun z => by
      subst z
      obtain ⟨l1, g1⟩ := List.getElem?_eq_some_iff.mp e
      obtain ⟨l2, g2⟩ := List.getElem?_eq_some_iff.mp f1
      exact hj ((List.getElem_inj x.nd).mp (g2.trans g1.symm))
    exact (x.ob j a y f1 f2).tr (List.prefix_refl _) (Per.wr hv m) (upd_ne ne)
theorem low_mem {n : Nat} {kvs : List (Key × D)} (h : D.lowL n (kvs.map (·.2)) = true) : ∀ p ∈ kvs, D.low n p.2 = true := by
  induction kvs with
  | nil => intro p hp; cases hp
  | cons q r ih =>
    simp [D.lowL] at h
    intro p hp
    rcases List.mem_cons.mp hp with rfl | hp
    · exact h.1
    · exact ih h.2 p hp
theorem RepK.cut {n : Nat} {a : List (Key × D)} {b : List (Key × V)} (r : RepK K φ H a b) (l : ∀ p ∈ a, D.low n p.2 = true) : RepK K (φ.take n) H a b := by
  induction r with
  | nil => exact .nil
  | @cons p q a b z _ ih => exact .cons ⟨z.1, Rep.cut n _ _ (l p List.mem_cons_self) z.2⟩ (ih fun p hp => l p (List.mem_cons_of_mem _ hp))
theorem ObR.cut {n : Nat} {a : Addr} {o : Ob} (x : ObR K φ H a o) (l : Ob.low n o = true) : ObR K (φ.take n) H a o := by
  cases x with
  | lst h r => exact .lst h (RepL.cut n _ _ l r)
  | dct h r => exact .dct h (r.cut (low_mem l))
end
end Y
end

section
set_option Elab.async false
set_option linter.all false
set_option maxRecDepth 100000
set_option maxHeartbeats 2000000
/-! YC: the judgements over Y, and the rules of expressions. -/
namespace Y
open PySem PySem.Spec PyProof.Rows L2

/-- fields of an exception -/
abbrev RepF (K : PySem.W.Frag) (φ : List Addr) (H : Hp) : List (Str × D) → List (Str × V) → Prop := Paired fun p q => p.1 = q.1 ∧ Rep K φ H p.2 q.2
/-- an exception: its class, its dict -/
def ER (K : PySem.W.Frag) (cl : Nat → Addr) (φ : List Addr) (H : Hp) (e : Exn) (c : Value) (d : Option Addr) : Prop :=
  c = .ref (cl e.cls) ∧ ((e.fs = [] ∧ d = none) ∨ ∃ dd fs, d = some dd ∧ H dd = some (.xd fs) ∧ RepF K φ H e.fs fs)
structure SR (K : PySem.W.Frag) (φ : List Addr) (H : Hp) (st : Sl) (σ : L2.St) : Prop where
  len : st.length = σ.length
  get : ∀ (i : Nat) (d : D), st[i]? = some (some d) → ∃ v, σ[i]? = some (some v) ∧ Rep K φ H d v
section
variable {K : PySem.W.Frag} {cl : Nat → Addr} {φ φ' : List Addr} {H H' : Hp} {st : Sl} {σ : L2.St}
theorem SR.mono (x : SR K φ H st σ) (l : Lat φ H φ' H') : SR K φ' H' st σ :=
  ⟨x.len, fun i d e => let ⟨v, h1, h2⟩ := x.get i d e; ⟨v, h1, Rep.mono l.pre l.per _ _ h2⟩⟩
theorem SR.set (x : SR K φ H st σ) {d : D} {v : V} (i : Nat) (h : Rep K φ H d v) : SR K φ H (st.set i (some d)) (σ.set i (some v)) := by
  refine ⟨by simp [x.len], fun j c e => ?_⟩
  by_cases hj : j = i
  · subst hj
    have lt : j < st.length := by
      have := (List.getElem?_eq_some_iff.mp e).1
      simpa using this
    rw [List.getElem?_set_self lt] at e
    cases e
    exact ⟨v, List.getElem?_set_self (by rw [← x.len]; exact lt), h⟩
  · rw [List.getElem?_set_ne (Ne.symm hj)] at e
    rw [List.getElem?_set_ne (Ne.symm hj)]
    exact x.get j c e
theorem SR.off (x : SR K φ H st σ) (i : Nat) : SR K φ H (st.set i none) (σ.set i none) := by
  refine ⟨by simp [x.len], fun j c e => ?_⟩
  by_cases hj : j = i
  · subst hj
    have lt : j < st.length := by
      have := (List.getElem?_eq_some_iff.mp e).1
      simpa using this
    rw [List.getElem?_set_self lt] at e
    cases e
  · rw [List.getElem?_set_ne (Ne.symm hj)] at e
    rw [List.getElem?_set_ne (Ne.symm hj)]
    exact x.get j c e
theorem SR.unset (x : SR K φ H st σ) : ∀ vs : List Nat, SR K φ H (unset st vs) (wipe σ vs)
  | [] => x
  | v :: vs => (x.unset vs).off v

abbrev WE' := Value → Option Addr → Hp → Prop
/-- how a value stands: the heap at the start, ours, the heap -/
abbrev RT (α β : Type) := Hp → List Addr → Hp → α → β → Prop
/-- what stands so, from a later start, stands so from the elder one -/
class Back {α β : Type} (Rel : RT α β) : Prop where
  back : ∀ {H φ H1 φ1 φ' H' a b}, Lat φ H φ1 H1 → Lat φ1 H1 φ' H' → Rel H1 φ' H' a b → Rel H φ' H' a b
def RR (K : PySem.W.Frag) : RT D V := fun _ => Rep K
def RL (K : PySem.W.Frag) : RT (List D) (List V) := fun _ => RepL K
def RBool : RT Bool Bool := fun _ _ _ a b => a = b
/-- a list that was just made and that nobody holds -/
def Fresh (K : PySem.W.Frag) : RT (List D) V := fun H0 φ H ds v => ∃ p vs, v = .ref p ∧ H0 p = none ∧ p ∉ φ ∧ H p = some (.lst vs) ∧ RepL K φ H ds vs
instance : Back (RR K) := ⟨fun _ _ h => h⟩
instance : Back (RL K) := ⟨fun _ _ h => h⟩
instance : Back RBool := ⟨fun _ _ h => h⟩
theorem Lat.gone {p : Addr} (a : Lat φ H φ' H') (n : p ∉ φ') (h : H' p = none) : H p = none := by
  cases e : H p with
  | none => rfl
  | some o =>
    have m : p ∉ φ := fun m => n (let ⟨k, q⟩ := List.getElem?_of_mem m; List.mem_of_getElem? (pre_get a.pre q))
    rw [a.keep p o e m] at h; cases h
theorem pre_notin {p : Addr} (q : φ <+: φ') (n : p ∉ φ') : p ∉ φ := fun m => n (let ⟨_, z⟩ := List.getElem?_of_mem m; List.mem_of_getElem? (pre_get q z))
instance : Back (Fresh K) := ⟨fun l1 l2 ⟨p, vs, e, h0, n, h, r⟩ => ⟨p, vs, e, l1.gone (pre_notin l2.pre n) h0, n, h, r⟩⟩
def Post {α β : Type} (K : PySem.W.Frag) (cl : Nat → Addr) (φ : List Addr) (H : Hp) (Rel : RT α β) (r : Rs α) (Q : β → Hp → Prop) (We : WE') : Prop := match r with
  | .ok a h' => ∀ φ' H' b, Lat φ H φ' H' → HR K φ' H' h' → Rel H φ' H' a b → Q b H'
  | .ex e h' => ∀ φ' H' c d, Lat φ H φ' H' → HR K φ' H' h' → ER K cl φ' H' e c d → We c d H'
  | .bad => False
theorem Post.lat {α β : Type} {Rel : RT α β} [Back Rel] {r : Rs α} {Q : β → Hp → Prop} {We : WE'} (p : Post K cl φ H Rel r Q We) (l : Lat φ H φ' H') : Post K cl φ' H' Rel r Q We := by
  cases r with
  | ok a h => exact fun φ2 H2 b l2 x q => p φ2 H2 b (l.trans l2) x (Back.back l l2 q)
  | ex e h => exact fun φ2 H2 c d l2 => p φ2 H2 c d (l.trans l2)
  | bad => exact p
theorem Post.seq {α α' β β' : Type} {R1 : RT α β} {R2 : RT α' β'} [Back R2] {r : Rs α} {k : α → Hm → Rs α'} {Q1 : β → Hp → Prop} {Q2 : β' → Hp → Prop} {We : WE'} (p : Post K cl φ H R2 (r.bind k) Q2 We)
    (h : ∀ a h1 φ1 H1 b, Lat φ H φ1 H1 → HR K φ1 H1 h1 → R1 H φ1 H1 a b → Post K cl φ1 H1 R2 (k a h1) Q2 We → Q1 b H1) : Post K cl φ H R1 r Q1 We := by
  cases r with
  | ok a h0 => exact fun φ1 H1 b l x r => h a h0 φ1 H1 b l x r (Post.lat (show Post K cl φ H R2 (k a h0) Q2 We from p) l)
  | ex e h0 => exact p
  | bad => exact p
def tG {α β : Type} (K : PySem.W.Frag) (cl : Nat → Addr) (W : WX) (Rel : RT α β) (f : Sl → Hm → Rs α) : L2.St → Hp → (β → Hp → Prop) → Prop := fun σ H Q =>
  ∃ φ st h, SR K φ H st σ ∧ HR K φ H h ∧ Post K cl φ H Rel (f st h) Q fun c d H' => W c d σ H'
def PostS (K : PySem.W.Frag) (cl : Nat → Addr) (φ : List Addr) (H : Hp) (o : Out) (D : Ends) (W : WX) : Prop := match o with
  | .nx σ h' => ∀ φ' H' τ, Lat φ H φ' H' → HR K φ' H' h' → SR K φ' H' σ τ → D.nx τ H'
  | .bk σ h' => ∀ φ' H' τ, Lat φ H φ' H' → HR K φ' H' h' → SR K φ' H' σ τ → D.bk τ H'
  | .ct σ h' => ∀ φ' H' τ, Lat φ H φ' H' → HR K φ' H' h' → SR K φ' H' σ τ → D.ct τ H'
  | .rt d h' => ∀ φ' H' v, Lat φ H φ' H' → HR K φ' H' h' → Rep K φ' H' d v → D.rt v H'
  | .rl d h' => ∀ φ' H' v, Lat φ H φ' H' → HR K φ' H' h' → Fresh K H φ' H' d v → D.rt v H'
  | .ex e σ h' => ∀ φ' H' c d τ, Lat φ H φ' H' → HR K φ' H' h' → SR K φ' H' σ τ → ER K cl φ' H' e c d → W c d τ H'
  | .bad => False
theorem PostS.lat {o : Out} {D : Ends} {W : WX} (p : PostS K cl φ H o D W) (l : Lat φ H φ' H') : PostS K cl φ' H' o D W := by
  cases o with
  | nx _ _ => exact fun φ2 H2 b l2 => p φ2 H2 b (l.trans l2)
  | bk _ _ => exact fun φ2 H2 b l2 => p φ2 H2 b (l.trans l2)
  | ct _ _ => exact fun φ2 H2 b l2 => p φ2 H2 b (l.trans l2)
  | rt _ _ => exact fun φ2 H2 b l2 => p φ2 H2 b (l.trans l2)
  | rl _ _ => exact fun φ2 H2 b l2 x q => p φ2 H2 b (l.trans l2) x (Back.back l l2 q)
  | ex _ _ _ => exact fun φ2 H2 c d τ l2 => p φ2 H2 c d τ (l.trans l2)
  | bad => exact p
def tSt (K : PySem.W.Frag) (cl : Nat → Addr) (W : WX) (f : Sv) : TS := fun D σ H => ∃ φ st h, SR K φ H st σ ∧ HR K φ H h ∧ PostS K cl φ H (f st h) D W
end

abbrev SE (X : Cx) (cl : Nat → Addr) (W : WX) (e : Expr) (f : Ev) : Prop := PE X e (tG X.K cl W (RR X.K) f)
abbrev ST (X : Cx) (cl : Nat → Addr) (W : WX) (e : Expr) (f : Tv) : Prop := PT X e (tG X.K cl W RBool f)
abbrev SW (X : Cx) (cl : Nat → Addr) (W : WX) (e : Expr) (f : Tv) : Prop := PW X e (tG X.K cl W RBool f)
abbrev SA (X : Cx) (cl : Nat → Addr) (W : WX) (es : List Expr) (f : Av) : Prop := PA X es (tG X.K cl W (RL X.K) f)
abbrev SL (X : Cx) (cl : Nat → Addr) (W : WX) (e : Expr) (f : Lv) : Prop := PE X e (tG X.K cl W (Fresh X.K) f)
abbrev SS (X : Cx) (cl : Nat → Addr) (W : WX) (s : Stmt) (f : Sv) : Prop := PS X s (tSt X.K cl W f)
abbrev SSs (X : Cx) (cl : Nat → Addr) (W : WX) (s : List Stmt) (f : Sv) : Prop := PSs X s (tSt X.K cl W f)

section
variable {X : Cx} {cl : Nat → Addr} {W : WX} {e a b : Expr} {es : List Expr} {f g : Ev} {pos : Pos}
theorem PE.of {t t' : TE} (h : PE X e t) (i : ∀ σ H Q, t' σ H Q → t σ H Q) : PE X e t' := ⟨fun pins s σ H Q I q => h.run pins s σ H Q I (i σ H Q q)⟩
theorem PT.of {t t' : TT} (h : PT X e t) (i : ∀ σ H Q, t' σ H Q → t σ H Q) : PT X e t' := ⟨fun pins s σ H Q I q => h.run pins s σ H Q I (i σ H Q q)⟩
theorem PW.of {t t' : TT} (h : PW X e t) (i : ∀ σ H Q, t' σ H Q → t σ H Q) : PW X e t' := ⟨fun wh pins s σ H Q I q => h.run wh pins s σ H Q I (i σ H Q q)⟩
theorem PA.of {t t' : TA} (h : PA X es t) (i : ∀ σ H Q, t' σ H Q → t σ H Q) : PA X es t' := ⟨fun pos pins s σ H Q I q => h.run pos pins s σ H Q I (i σ H Q q)⟩
theorem PS.of {st : Stmt} {t t' : TS} (h : PS X st t) (i : ∀ D σ H, t' D σ H → t D σ H) : PS X st t' := ⟨fun pins s σ H D I q => h.run pins s σ H D I (i D σ H q)⟩
theorem PSs.of {st : List Stmt} {t t' : TS} (h : PSs X st t) (i : ∀ D σ H, t' D σ H → t D σ H) : PSs X st t' := ⟨fun pins s σ H D I q => h.run pins s σ H D I (i D σ H q)⟩
/-- two in a row, then a value without more -/
theorem seq2 {α β : Type} {σ : L2.St} {H : Hp} {Q : β → Hp → Prop} {Rel : RT α β} [Back Rel] {k : D → D → Hm → Rs α} {R : V → V → Hp → Prop}
    (p : tG X.K cl W Rel (fun σ h => (f σ h).bind fun x h1 => (g σ h1).bind fun y h2 => k x y h2) σ H Q)
    (h : ∀ φ H2 h2 x y v u, HR X.K φ H2 h2 → Rep X.K φ H2 x v → Rep X.K φ H2 y u → Post X.K cl φ H2 Rel (k x y h2) Q (fun c d H' => W c d σ H') → R v u H2) :
    tG X.K cl W (RR X.K) f σ H fun v H1 => tG X.K cl W (RR X.K) g σ H1 fun u H2 => R v u H2 := by
  obtain ⟨φ, st, h0, S, R0, P⟩ := p
  exact ⟨φ, st, h0, S, R0, P.seq fun x h1 φ1 H1 v l1 r1 q1 P1 => ⟨φ1, st, h1, S.mono l1, r1, P1.seq fun y h2 φ2 H2 u l2 r2 q2 P2 => h φ2 H2 h2 x y v u r2 (Rep.mono l2.pre l2.per _ _ q1) q2 P2⟩⟩
theorem seq1 {α β γ δ : Type} {R1 : RT γ δ} {f : Sl → Hm → Rs γ} {σ : L2.St} {H : Hp} {Q : β → Hp → Prop} {Rel : RT α β} [Back Rel] {k : γ → Hm → Rs α} {R : δ → Hp → Prop}
    (p : tG X.K cl W Rel (fun σ h => (f σ h).bind fun x h1 => k x h1) σ H Q)
    (h : ∀ φ H1 h1 x v, HR X.K φ H1 h1 → R1 H φ H1 x v → Post X.K cl φ H1 Rel (k x h1) Q (fun c d H' => W c d σ H') → R v H1) :
    tG X.K cl W R1 f σ H R := by
  obtain ⟨φ, st, h0, S, R0, P⟩ := p
  exact ⟨φ, st, h0, S, R0, P.seq fun x h1 φ1 H1 v l1 r1 q1 P1 => h φ1 H1 h1 x v r1 q1 P1⟩
/-- .. where the start matters -/
theorem seq0 {α β γ δ : Type} {R1 : RT γ δ} {f : Sl → Hm → Rs γ} {σ : L2.St} {H : Hp} {Q : β → Hp → Prop} {Rel : RT α β} [Back Rel] {k : γ → Hm → Rs α} {R : δ → Hp → Prop}
    (p : tG X.K cl W Rel (fun σ h => (f σ h).bind fun x h1 => k x h1) σ H Q)
    (h : ∀ φ0 φ H1 h1 x v, Lat φ0 H φ H1 → HR X.K φ H1 h1 → R1 H φ H1 x v → (∀ a h2, k x h1 = .ok a h2 → ∀ φ' H' b, Lat φ0 H φ' H' → HR X.K φ' H' h2 → Rel H φ' H' a b → Q b H') → (∃ a h2, k x h1 = .ok a h2) → R v H1) (hk : ∀ x h1, (∃ a h2, k x h1 = .ok a h2) ∨ k x h1 = .bad) :
    tG X.K cl W R1 f σ H R := by
  obtain ⟨φ, st, h0, S, R0, P⟩ := p
  refine ⟨φ, st, h0, S, R0, ?_⟩
  cases e : f st h0 with
  | bad => simp only [e, Rs.bind] at P; exact P
  | ex _ _ => simp only [e, Rs.bind] at P; exact P
  | ok x h1 =>
    simp only [e, Rs.bind] at P
    intro φ1 H1 v l1 r1 q1
    rcases hk x h1 with ⟨a, h2, e2⟩ | e2
    · refine h φ φ1 H1 h1 x v l1 r1 q1 (fun a' h2' e' => ?_) ⟨a, h2, e2⟩
      rw [e'] at P
      exact P
    · rw [e2] at P; exact P.elim
/-- what a Post of a given value says -/
theorem Post.val {α β : Type} {K : PySem.W.Frag} {φ : List Addr} {H : Hp} {Rel : RT α β} {a : α} {h : Hm} {Q : β → Hp → Prop} {We : WE'} (p : Post K cl φ H Rel (.ok a h) Q We) (r : HR K φ H h) {b : β} (q : Rel H φ H a b) : Q b H :=
  p φ H b (Lat.refl _ _) r q

/-! ### constants, names -/
theorem s_c {d : D} {v : V} (h : PE X e (L2.tC v)) (r : ∀ φ H, Rep X.K φ H d v) : SE X cl W e (eC d) := PE.of h fun σ H Q ⟨φ, st, h0, S, R, P⟩ => P.val R (r φ H)
theorem s_int {i j} : SE X cl W (.Constant (.int i) j pos) (eC (.int i)) := s_c pe_int fun _ _ => .int i
theorem s_str {x j} : SE X cl W (.Constant (.str x) j pos) (eC (.str x)) := s_c pe_str fun _ _ => .str x
theorem s_bl {x j} : SE X cl W (.Constant (.bool x) j pos) (eC (.bl x)) := s_c pe_bl fun _ _ => .bl x
theorem s_non {j} : SE X cl W (.Constant .none j pos) (eC .non) := s_c pe_non fun _ _ => .non
theorem s_v (i : Nat) {x : Str} (hN : X.N[i]? = some x := by rfl) (hv : Vis X.env.scope x := by first | exact Or.inl rfl | exact Or.inr (Or.inl rfl) | exact Or.inr (Or.inr rfl)) (hd : (x == ("__debug__" : Str)) = false := by decide)
    (hcd : (x == ("__classdict__" : Str)) = false := by decide) : SE X cl W (.Name x pos) (eV i) := PE.of (pe_var hN hv hd hcd) fun σ H Q ⟨φ, st, h0, S, R, P⟩ => by
  unfold eV at P
  cases e : st[i]? with
  | none => rw [e] at P; exact P.elim
  | some o =>
    cases o with
    | none => rw [e] at P; exact P.elim
    | some d =>
      rw [e] at P
      obtain ⟨v, h1, h2⟩ := S.get i d e
      exact ⟨v, h1, P.val R h2⟩

/-! ### operators, by values -/
/-- an operator's meaning -/
def OpY (X : Cx) (F : Value → Value → Sem Value) (o : Hm → D → D → Option D) : Prop := ∀ (cl : Nat → Addr) (We : WE') (Q : VK) (φ : List Addr) (H : Hp) (h : Hm) (x y : D) (v u : V),
  ∀ (pins : List (Addr × Obj)) (s : Shared) (σ : L2.St) (vv uu : Value), Inv X pins σ H s → RelV v vv → RelV u uu →
  HR X.K φ H h → Rep X.K φ H x v → Rep X.K φ H y u → Post X.K cl φ H (RR X.K) (ofO (o h x y) h) Q We → wpAny (model X.prog X.w) X.A (F vv uu) (EP X pins σ Q) X.xe s
/-- from a rule of HandS for one shape -/
theorem opY_of {F : Value → Value → Sem Value} {o : Hm → D → D → Option D}
    (h : ∀ (cl : Nat → Addr) (We : WE') (Q : VK) (φ : List Addr) (H : Hp) (h : Hm) (x y : D) (v u : V), HR X.K φ H h → Rep X.K φ H x v → Rep X.K φ H y u → Post X.K cl φ H (RR X.K) (ofO (o h x y) h) Q We → ∃ r, OpR X F r ∧ r v u H Q) : OpY X F o :=
  fun cl We Q φ H h0 x y v u pins s σ vv uu I rv ru R rx ry P => by
    obtain ⟨r, hr, q⟩ := h cl We Q φ H h0 x y v u R rx ry P
    exact hr pins s σ H v u vv uu Q I rv ru q
def tO2 (X : Cx) (cl : Nat → Addr) (W : WX) (o : Hm → D → D → Option D) (f g : Ev) : TE := tG X.K cl W (RR X.K) (e2 o f g)
theorem s_op {op : Operator} {o : Hm → D → D → Option D} (ho : OpY X (binaryOp op) o) (ha : SE X cl W a f) (hb : SE X cl W b g) : SE X cl W (.BinOp a op b pos) (e2 o f g) := by
  refine ⟨fun pins s σ H Q I p => ?_⟩
  refine wpAny_BinOp (bin ha hb I (seq2 (R := fun v u H2 => ∃ φ h x y, HR X.K φ H2 h ∧ Rep X.K φ H2 x v ∧ Rep X.K φ H2 y u ∧ Post X.K cl φ H2 (RR X.K) (ofO (o h x y) h) Q fun c d H' => W c d σ H') p
    fun φ H2 h2 x y v u r q1 q2 P2 => ⟨φ, h2, x, y, r, q1, q2, P2⟩) fun v u s2 x y H2 I2 rx ry q => ?_)
  obtain ⟨φ, h, dx, dy, r, q1, q2, P⟩ := q
  exact ho cl _ Q φ H2 h dx dy x y pins s2 σ v u I2 rx ry r q1 q2 P
theorem s_cmp {op : CmpOp} {o : Hm → D → D → Option D} (ho : OpY X (compareOp op) o) (ha : SE X cl W a f) (hb : SE X cl W b g) (hm : behindInMarks op b = false) : SE X cl W (.Compare a [op] [b] pos) (e2 o f g) := by
  refine ⟨fun pins s σ H Q I p => ?_⟩
  refine wpAny_Compare1 (bin ha hb I (seq2 (R := fun v u H2 => ∃ φ h x y, HR X.K φ H2 h ∧ Rep X.K φ H2 x v ∧ Rep X.K φ H2 y u ∧ Post X.K cl φ H2 (RR X.K) (ofO (o h x y) h) Q fun c d H' => W c d σ H') p
    fun φ H2 h2 x y v u r q1 q2 P2 => ⟨φ, h2, x, y, r, q1, q2, P2⟩) fun v u s2 x y H2 I2 rx ry q => ?_) hm
  obtain ⟨φ, h, dx, dy, r, q1, q2, P⟩ := q
  exact ho cl _ Q φ H2 h dx dy x y pins s2 σ v u I2 rx ry r q1 q2 P
/-- a test whose expression has a value that is a bool: a comparison -/
theorem t_cmp {op : CmpOp} {o : Hm → D → D → Option D} (ho : OpY X (compareOp op) o) (ha : SE X cl W a f) (hb : SE X cl W b g) (hm : behindInMarks op b = false) : ST X cl W (.Compare a [op] [b] pos) (tB (e2 o f g)) := by
  refine ⟨fun pins s σ H Q I p => ?_⟩
  have p' : tG X.K cl W (RR X.K) (e2 o f g) σ H fun x H1 => ∃ k, x = .bl k ∧ Q k H1 := by
    refine seq1 (k := fun x h1 => match x with | .bl b => .ok b h1 | _ => .bad) p fun φ H1 h1 x v r q P => ?_
    cases q with
    | bl b => exact ⟨b, rfl, P.val r rfl⟩
    | _ => exact P.elim
  refine wpAny_isTrue_Compare1 (bin ha hb I (seq2 (R := fun v u H2 => ∃ φ h x y, HR X.K φ H2 h ∧ Rep X.K φ H2 x v ∧ Rep X.K φ H2 y u ∧ Post X.K cl φ H2 (RR X.K) (ofO (o h x y) h) (fun x H1 => ∃ k, x = .bl k ∧ Q k H1) fun c d H' => W c d σ H') p'
    fun φ H2 h2 x y v u r q1 q2 P2 => ⟨φ, h2, x, y, r, q1, q2, P2⟩) fun v u s2 x y H2 I2 rx ry q => ?_) hm
  obtain ⟨φ, h, dx, dy, r, q1, q2, P⟩ := q
  refine thn (ho cl _ _ φ H2 h dx dy x y pins s2 σ v u I2 rx ry r q1 q2 P) fun w s3 ⟨y3, H3, I3, r3, k, e3, q3⟩ => ?_
  subst e3
  obtain rfl : w = Value.bool k := r3
  exact wpAny_truthy_bool ⟨H3, I3, q3⟩
theorem t_val (h : SE X cl W e f) (he : ∀ whole, isTrue e X.env whole = (do let v ← whole; standAt e.pos; holding [v] (truthy v)) := by intro _; rfl) : ST X cl W e (tB f) := by
  refine PT.of (pt_val h he) fun σ H Q p => ?_
  refine seq1 (k := fun x h1 => match x with | .bl b => .ok b h1 | _ => .bad) p fun φ H1 h1 x v r q P => ?_
  cases q with
  | bl b => exact ⟨b, rfl, P.val r rfl⟩
  | _ => exact P.elim
end
end Y
end

section
set_option Elab.async false
set_option linter.all false
set_option maxRecDepth 100000
set_option maxHeartbeats 2000000
/-! YD: operators, places, built-in calls. -/
namespace Y
open PySem PySem.Spec PyProof.Rows L2

/-- what a rule of Y wants of the context -/
structure Cs (k : Nat) (X : Cx) : Prop where
  room : Room k X.A
  gd : X.A.guards = some []
  calm : X.calm = true
  nd : X.N.Nodup
theorem Cs.mono {j k : Nat} {X : Cx} (c : Cs k X) (h : j ≤ k) : Cs j X := ⟨c.room.mono h, c.gd, c.calm, c.nd⟩
theorem Cs.hu {k : Nat} {X : Cx} (c : Cs k X) : X.A.units + 1 < cLine := hu_of c.room

/-! ### a list is frozen: the ghost step -/
section
variable {X : Cx} {pins : List (Addr × Obj)} {σ : L2.St} {H : Hp} {s : Shared} {p : Addr} {vs : List V}
theorem inv_frz (I : L2.Inv X pins σ H s) (h : H p = some (.lst vs)) : ∃ o, L2.Inv X pins σ (upd H p (.frz o (.lst vs))) s := by
  have okp := I.hok p _ h
  obtain ⟨hz, its, n, rv, hg⟩ := okp
  refine ⟨_, I.un (t' := s.toks) (h' := s.heap) (H' := upd H p (.frz { cls := .type "list", data := .seq its.toArray n } (.lst vs))) ⟨fun b o e _ _ _ => e, fun b o e _ _ _ => ⟨o.slots, e⟩, fun b o _ e _ => ?_, fun b o e _ => ⟨o, e⟩, fun b xs e => ?_, fun b o u e => ?_, fun b ps e => ⟨#[], ?_⟩⟩ fun b o e => ?_⟩
  · rw [upd_ne (fun z => by rw [z, h] at e; cases e)]; exact e
  · rw [upd_ne (fun z => by rw [z, h] at e; cases e)]; exact e
  · rw [upd_ne (fun z => by rw [z, h] at e; cases e)]; exact e
  · rw [upd_ne (fun z => by rw [z, h] at e; cases e), e]; simp
  · by_cases hb : b = p
    · subst hb
      rw [upd_same] at e
      cases e
      exact ⟨hg, hz, its, n, rv, hg⟩
    · rw [upd_ne hb] at e
      refine (I.hok b o e).stay (fun _ _ _ q => q) (fun c q => ?_) fun c xs q => ?_
      · rw [upd_ne (fun z => by rw [z, h] at q; cases q)]; exact q
      · rw [upd_ne (fun z => by rw [z, h] at q; cases q)]; exact q
end
section
variable {K : PySem.W.Frag} {φ : List Addr} {H : Hp} {h : Hm}
theorem HR.out (x : HR K φ H h) {p : Addr} {u v : HO} (n : p ∉ φ) (e : H p = some u) (m : mutO u = true) : HR K φ (upd H p v) h := by
  refine ⟨x.len, x.nd, fun k a o e1 e2 => ?_⟩
  refine (x.ob k a o e1 e2).tr (List.prefix_refl _) (Per.wr e m) (upd_ne fun z => n ?_)
  subst z
  exact List.mem_of_getElem? e1
/-- fresh, then frozen -/
theorem Fresh.frz {φ0 : List Addr} {H0 : Hp} {ds : List D} {p : Addr} {vs : List V} {o : Obj} (l : Lat φ0 H0 φ H) (h0 : H0 p = none) (x : HR K φ H h) (n : p ∉ φ) (e : H p = some (.lst vs)) (r : RepL K φ H ds vs) :
    Lat φ0 H0 φ (upd H p (.frz o (.lst vs))) ∧ HR K φ (upd H p (.frz o (.lst vs))) h ∧ Rep K φ (upd H p (.frz o (.lst vs))) (.fl ds) (.ref p) :=
  ⟨⟨l.pre, l.per.trans (Per.wr e rfl), fun b u q m => by rw [upd_ne (ne_of_none q h0)]; exact l.keep b u q m, l.fresh⟩, x.out n e rfl, .fl upd_same (RepL.mono (List.prefix_refl _) (Per.wr e rfl) _ _ r)⟩
/-- fresh, then one of ours -/
theorem Fresh.mut {φ0 : List Addr} {H0 : Hp} {ds : List D} {p : Addr} {vs : List V} (l : Lat φ0 H0 φ H) (h0 : H0 p = none) (x : HR K φ H h) (n : p ∉ φ) (e : H p = some (.lst vs)) (r : RepL K φ H ds vs) :
    Lat φ0 H0 (φ ++ [p]) H ∧ HR K (φ ++ [p]) H (h ++ [.lst ds]) ∧ Rep K (φ ++ [p]) H (.loc h.length) (.ref p) := by
  refine ⟨⟨l.pre.trans (List.prefix_append _ _), l.per, l.keep, fun b m => ?_⟩, x.add n (.lst e (RepL.mono (List.prefix_append _ _) (Per.refl _) _ _ r)), .loc ?_⟩
  · rcases List.mem_append.mp m with m | m
    · exact l.fresh b m
    · simp at m
      subst m
      exact .inr h0
  rw [List.getElem?_append_right (by rw [x.len]; exact Nat.le_refl _)]
  simp [x.len]
end

section
variable {X : Cx} {cl : Nat → Addr} {W : WX} {e a b c : Expr} {es : List Expr} {f g k : Ev} {fl : Lv} {pos : Pos}
theorem s_frz (h : SL X cl W e fl) : SE X cl W e (eFrz fl) := by
  refine ⟨fun pins s σ H Q I p => ?_⟩
  refine thn (h.run pins s σ H (fun v H1 => ∃ p vs, v = .ref p ∧ H1 p = some (.lst vs) ∧ ∀ o, Q v (upd H1 p (.frz o (.lst vs)))) I
    (seq0 (R1 := Fresh X.K) (k := fun xs h1 => Rs.ok (D.fl xs) h1) p (fun φ0 φ H1 h1 ds v l r q P _ => ?_) fun _ _ => .inl ⟨_, _, rfl⟩)) fun u s1 ⟨v, H1, I1, rv, p, vs, e1, e2, q⟩ => ?_
  · obtain ⟨p, vs, rfl, h0, n, e, rr⟩ := q
    refine ⟨p, vs, rfl, e, fun o => ?_⟩
    obtain ⟨l, x, y⟩ := Fresh.frz (o := o) l h0 r n e rr
    exact P _ _ rfl φ _ _ l x y
  · subst e1
    obtain ⟨o, I2⟩ := inv_frz I1 e2
    exact ⟨_, _, I2, rv, q o⟩
theorem s_mut (h : SL X cl W e fl) : SE X cl W e (eMut fl) := PE.of h fun σ H Q p =>
  seq0 (R1 := Fresh X.K) (k := fun xs h1 => Rs.ok (D.loc h1.length) (h1 ++ [Ob.lst xs])) p (fun φ0 φ H1 h1 ds v l r q P _ => by
    obtain ⟨p, vs, rfl, h0, n, e, rr⟩ := q
    obtain ⟨l, x, y⟩ := Fresh.mut l h0 r n e rr
    exact P _ _ rfl _ _ _ l x y) fun _ _ => .inl ⟨_, _, rfl⟩

/-! ### operators -/
theorem line_eq : line = sizeLine := by rw [sizeLine_eq]; rfl
/-- the rule of HandS that a meaning gives -/
def rY (K : PySem.W.Frag) (o : Hm → D → D → Option D) : R2 := fun v u H Q => ∃ (cl : Nat → Addr) (We : WE') (φ : List Addr) (h : Hm) (x y : D), HR K φ H h ∧ Rep K φ H x v ∧ Rep K φ H y u ∧ Post K cl φ H (RR K) (ofO (o h x y) h) Q We
theorem OpY.r {F : Value → Value → Sem Value} {o : Hm → D → D → Option D} (h : OpY X F o) : OpR X F (rY X.K o) := fun pins s σ H x y v u Q I rx ry ⟨cl, We, φ, hh, dx, dy, R, q1, q2, P⟩ =>
  h cl We Q φ H hh dx dy x y pins s σ v u I rx ry R q1 q2 P
/-- an operator whose result is plain -/
theorem opY1 {F : Value → Value → Sem Value} {o : Hm → D → D → Option D}
    (h : ∀ (Q : VK) (φ : List Addr) (H : Hp) (h : Hm) (x y : D) (v u : V) (z : D), HR X.K φ H h → Rep X.K φ H x v → Rep X.K φ H y u → o h x y = some z → (∀ w, Rep X.K φ H z w → Q w H) → ∃ r, OpR X F r ∧ r v u H Q) : OpY X F o :=
  opY_of fun cl We Q φ H h0 x y v u R rx ry P => by
    cases e : o h0 x y with
    | none => rw [e] at P; exact P.elim
    | some z =>
      rw [e] at P
      exact h Q φ H h0 x y v u z R rx ry e fun w hw => P.val R hw
theorem y_sub : OpY X (binaryOp .Sub) oSub := opY1 fun Q φ H h x y v u z R rx ry e q => by
  cases rx <;> cases ry <;> simp [oSub] at e
  subst e
  exact ⟨_, op_sub, _, _, rfl, rfl, q _ (.int _)⟩
theorem big_eq : big = 2 ^ 64 := by decide
theorem y_mul : OpY X (binaryOp .Mult) oMul := opY1 fun Q φ H h x y v u z R rx ry e q => by
  cases rx <;> cases ry <;> simp [oMul] at e
  obtain ⟨c, rfl⟩ := e
  refine ⟨_, op_mul, _, _, rfl, rfl, ?_, q _ (.int _)⟩
  simp only [mulOk, Bool.or_eq_true, Bool.and_eq_true, decide_eq_true_eq, big_eq] at c
  exact c
theorem y_div : OpY X (binaryOp .FloorDiv) oDiv := opY1 fun Q φ H h x y v u z R rx ry e q => by
  cases rx <;> cases ry <;> simp only [oDiv] at e <;> try (cases e; done)
  split at e
  · rename_i c
    cases e
    exact ⟨_, op_fdiv, _, _, rfl, rfl, c, q _ (.int _)⟩
  · split at e
    · rename_i c
      cases e
      exact ⟨_, op_fdivN, _, _, rfl, rfl, ⟨by omega, by omega⟩, q _ (.int _)⟩
    · cases e
theorem y_mod : OpY X (binaryOp .Mod) oMod := opY1 fun Q φ H h x y v u z R rx ry e q => by
  cases rx <;> cases ry <;> simp only [oMod] at e <;> try (cases e; done)
  split at e
  · rename_i c
    cases e
    exact ⟨_, op_mod, _, _, rfl, rfl, c, q _ (.int _)⟩
  · split at e
    · rename_i c
      cases e
      exact ⟨_, op_modN, _, _, rfl, rfl, by omega, q _ (.int _)⟩
    · cases e
theorem y_pow : OpY X (binaryOp .Pow) oPow := opY1 fun Q φ H h x y v u z R rx ry e q => by
  cases rx <;> cases ry <;> simp only [oPow] at e <;> try (cases e; done)
  split at e
  · rename_i c
    cases e
    refine ⟨_, op_pow, _, _, rfl, rfl, ⟨c.1, c.2.1, ?_⟩, q _ (.int _)⟩
    have h1 := c.2.2.1
    have h2 := c.2.2.2
    rw [big_eq] at h1 h2
    omega
  · cases e
/-- the list that stands there, ours or frozen -/
theorem own_at {φ : List Addr} {H : Hp} {h : Hm} (R : HR X.K φ H h) {x : D} {v : V} (rx : Rep X.K φ H x v) {xs : List D} (e : ownL h x = some xs) : ∃ a vs, v = .ref a ∧ Rd H a (.lst vs) ∧ RepL X.K φ H xs vs := by
  cases rx <;> simp only [ownL] at e <;> try (cases e; done)
  case fl a o ds vs hf r => cases e; exact ⟨a, vs, rfl, .inr ⟨o, hf⟩, r⟩
  case loc k a hk =>
    obtain ⟨ob, h1, h2⟩ := R.at hk
    rw [h1] at e
    cases ob <;> simp at e
    subst e
    cases h2 with
    | lst hh r => exact ⟨a, _, rfl, .inl hh, r⟩
theorem lst_at {φ : List Addr} {H : Hp} {h : Hm} (R : HR X.K φ H h) {x : D} {v : V} (rx : Rep X.K φ H x v) {xs : List D} (e : lstOf h x = some xs) : ∃ a vs, v = .ref a ∧ SqL X.K H a vs ∧ RepL X.K φ H xs vs := by
  cases rx <;> simp only [lstOf] at e <;> try (cases e; done)
  case fl a o ds vs hf r => cases e; exact ⟨a, vs, rfl, .inl (.inr ⟨o, hf⟩), r⟩
  case sq a ds vs hf r => cases e; exact ⟨a, vs, rfl, hf.sq, r⟩
  case loc k a hk =>
    obtain ⟨ob, h1, h2⟩ := R.at hk
    rw [h1] at e
    cases ob <;> simp at e
    subst e
    cases h2 with
    | lst hh r => exact ⟨a, _, rfl, .of hh, r⟩
/-- list + list, each ours or frozen -/
def rCatR : R2 := fun x y H Q => ∃ l b xs zs, x = .ref l ∧ y = .ref b ∧ Rd H l (.lst xs) ∧ Rd H b (.lst zs) ∧ xs.length + zs.length ≤ sizeLine ∧ ∀ p, H p = none → Q (.ref p) (upd H p (.lst (xs ++ zs)))
theorem op_catR : OpR X (binaryOp .Add) rCatR := fun pins s σ H x y v u Q I rx ry h => by
  obtain ⟨l, b, xs, zs, rfl, rfl, h1, h2, hz, q⟩ := h
  cases rx
  cases ry
  obtain ⟨z1, i1, n1, r1, e1⟩ := h1.ok I.hok
  obtain ⟨z2, i2, n2, r2, e2⟩ := h2.ok I.hok
  have l1 := r1.length
  have l2 := r2.length
  refine PySem.P.add_list e1 e2 ?_ (by rw [List.size_toArray, List.size_toArray]; omega)
  rw [show i1.toArray ++ i2.toArray = (i1 ++ i2).toArray by simp]
  exact ⟨.ref _, _, I.lnew (t' := s.toks) (r1.append r2) (by rw [List.length_append]; omega), rfl, q _ I.fresh⟩
theorem y_add : OpY X (binaryOp .Add) oAdd := by
  intro cl We Q φ H h x y v u pins s σ vv uu I rv ru R rx ry P
  cases e : oAdd h x y with
  | none => rw [e] at P; exact P.elim
  | some z =>
    rw [e] at P
    have lists : ∀ xs ys, ownL h x = some xs → ownL h y = some ys → xs.length + ys.length ≤ line → z = .fl (xs ++ ys) → wpAny (model X.prog X.w) X.A (binaryOp .Add vv uu) (EP X pins σ Q) X.xe s := by
      intro xs ys e1 e2 hz ez
      subst ez
      obtain ⟨l, vs, rfl, h1, q1⟩ := own_at R rx e1
      obtain ⟨b, us, rfl, h2, q2⟩ := own_at R ry e2
      refine thn (op_catR pins s σ H _ _ vv uu (fun v H1 => ∃ p, v = .ref p ∧ H p = none ∧ H1 = upd H p (.lst (vs ++ us))) I rv ru ⟨l, b, vs, us, rfl, rfl, h1, h2, by rw [← q1.length, ← q2.length, ← line_eq]; exact hz, fun p hp => ⟨p, rfl, hp, rfl⟩⟩) fun w s1 ⟨w1, H1, I1, rw1, p, e1, hp, e3⟩ => ?_
      subst e1; subst e3
      obtain ⟨o, I2⟩ := inv_frz I1 upd_same
      have R1 : HR X.K φ (upd H p (.lst (vs ++ us))) h := R.new hp
      have rr : RepL X.K φ (upd H p (.lst (vs ++ us))) (xs ++ ys) (vs ++ us) := RepL.mono (List.prefix_refl _) (Per.new hp) _ _ (q1.append q2)
      obtain ⟨l1, x1, y1⟩ := Fresh.frz (o := o) (Lat.new hp) hp R1 (R.notin hp) upd_same rr
      exact ⟨_, _, I2, rw1, P φ _ _ l1 x1 y1⟩
    have gen : (match ownL h x, ownL h y with | some xs, some ys => if xs.length + ys.length ≤ line then some (D.fl (xs ++ ys)) else none | _, _ => none) = some z → wpAny (model X.prog X.w) X.A (binaryOp .Add vv uu) (EP X pins σ Q) X.xe s := by
      intro e
      cases e1 : ownL h x with
      | none => rw [e1] at e; cases e
      | some xs =>
        cases e2 : ownL h y with
        | none => rw [e1, e2] at e; cases e
        | some ys =>
          rw [e1, e2] at e
          simp only at e
          split at e
          · exact lists xs ys e1 e2 (by assumption) (Option.some.inj e).symm
          · cases e
    cases rx <;> cases ry <;> first
      | (simp only [oAdd] at e; exact gen e)
      | skip
    · simp [oAdd] at e
      subst e
      exact op_add pins s σ H _ _ vv uu Q I rv ru ⟨_, _, rfl, rfl, P.val R (.int _)⟩
    · simp only [oAdd] at e
      split at e
      · cases e
        exact op_add_str pins s σ H _ _ vv uu Q I rv ru ⟨_, _, rfl, rfl, by rw [← line_eq]; assumption, P.val R (.str _)⟩
      · cases e
    · rename_i a1 d1 v1 h1 r1 a2 d2 v2 h2 r2
      simp only [oAdd] at e
      split at e
      · rename_i hz
        cases e
        refine op_catA pins s σ H _ _ vv uu Q I rv ru ⟨a1, a2, v1, v2, rfl, rfl, h1, h2, by rw [← r1.length, ← r2.length, ← line_eq]; exact hz, fun z => ?_, fun _ z => ?_, fun _ _ p hp => ?_⟩
        · obtain rfl := r1.nil_iff.mpr z
          exact P.val R (.tup h2 r2)
        · obtain rfl := r2.nil_iff.mpr z
          rw [List.append_nil] at P
          exact P.val R (.tup h1 r1)
        · refine P φ _ _ (Lat.new hp) (R.new hp) (.tup (.of upd_same) (RepL.mono (List.prefix_refl _) (Per.new hp) _ _ (r1.append r2)))
      · cases e
end
end Y
end

section
set_option Elab.async false
set_option linter.all false
set_option maxRecDepth 100000
set_option maxHeartbeats 2000000
/-! YE: comparisons, tests, displays, places, built-ins. -/
namespace Y
open PySem PySem.Spec PyProof.Rows L2

section
variable {K : PySem.W.Frag} {φ : List Addr} {H : Hp} {h : Hm}
mutual
theorem Rep.dp : ∀ (d : D) (v : V) (p : PyData), py h d = some p → Rep K φ H d v → Dp K H v p
  | .non, _, _, e, r => by cases r; simp [py] at e; subst e; exact .non
  | .bl _, _, _, e, r => by cases r; simp [py] at e; subst e; exact .bl _
  | .int _, _, _, e, r => by cases r; simp [py] at e; subst e; exact .int _
  | .str _, _, _, e, r => by cases r; simp [py] at e; subst e; exact .str _
  | .tup ds, _, _, e, r => by
    simp [py] at e
    obtain ⟨a, ha, rfl⟩ := e
    cases r with
    | tup h r => exact .tup h (RepL.dp ds _ _ ha r)
  | .fl ds, _, _, e, r => by
    simp [py] at e
    obtain ⟨a, ha, rfl⟩ := e
    cases r with
    | fl h r => exact .lst (.inl (.inr ⟨_, h⟩)) (RepL.dp ds _ _ ha r)
  | .sq ds, _, _, e, r => by
    simp [py] at e
    obtain ⟨a, ha, rfl⟩ := e
    cases r with
    | sq h r => exact .lst h.sq (RepL.dp ds _ _ ha r)
  | .loc _, _, _, e, _ => by simp [py] at e
theorem RepL.dp : ∀ (d : List D) (v : List V) (p : List PyData), pyL h d = some p → RepL K φ H d v → DpAll K H v p
  | [], _, _, e, r => by cases r; simp [pyL] at e; subst e; exact .nil
  | d :: ds, _, _, e, r => by
    cases r with
    | cons q r =>
      simp only [pyL] at e
      cases e1 : py h d with
      | none => rw [e1] at e; cases e
      | some a =>
        cases e2 : pyL h ds with
        | none => rw [e1, e2] at e; cases e
        | some b =>
          rw [e1, e2] at e
          cases e
          exact .cons (Rep.dp d _ a e1 q) (RepL.dp ds _ b e2 r)
end
end

section
variable {X : Cx} {k : Nat}
theorem dec_bool {P Q : Prop} [Decidable P] [Decidable Q] (h : P ↔ Q) : decide P = decide Q := by
  by_cases p : P
  · rw [decide_eq_true p, decide_eq_true (h.mp p)]
  · rw [decide_eq_false p, decide_eq_false fun q => p (h.mpr q)]
def EqOk (X : Cx) (H : Hp) (v u : V) (b : Bool) : Prop :=
    (∀ Q : VK, Q (.bl b) H → ∃ r, OpR X (compareOp .Eq) r ∧ r v u H Q) ∧ ∀ Q : VK, Q (.bl (!b)) H → ∃ r, OpR X (compareOp .NotEq) r ∧ r v u H Q
theorem eqD_sound (c : Cs k X) {φ : List Addr} {H : Hp} {h : Hm} {x y : D} {v u : V} {b : Bool} (rx : Rep X.K φ H x v) (ry : Rep X.K φ H y u) (e : eqD h x y = some b) : EqOk X H v u b := by
  have gen : (match py h x, py h y with | some a, some b => if SeqAt.shaped a && SeqAt.shaped b then some (PyData.eqv a b) else none | _, _ => none) = some b → EqOk X H v u b := by
    intro e
    cases e1 : py h x with
    | none => rw [e1] at e; cases e
    | some a =>
      cases e2 : py h y with
      | none => rw [e1, e2] at e; cases e
      | some d =>
        rw [e1, e2] at e
        simp only at e
        split at e
        · rename_i hs
          cases e
          rw [Bool.and_eq_true] at hs
          have d1 := Rep.dp x v a e1 rx
          have d2 := Rep.dp y u d e2 ry
          exact ⟨fun Q q => ⟨_, op_eqD c.room.units, a, d, d1, d2, hs.1, hs.2, q⟩, fun Q q => ⟨_, op_neD c.room.units, a, d, d1, d2, hs.1, hs.2, q⟩⟩
        · cases e
  cases rx <;> cases ry <;> first
    | (simp only [eqD] at e; exact gen e)
    | (simp only [eqD] at e
       cases e
       refine ⟨fun Q q => ⟨_, op_eq, rfl, ?_⟩, fun Q q => ⟨_, op_ne, rfl, ?_⟩⟩ <;>
       (simpa using q))
theorem y_eq (c : Cs k X) : OpY X (compareOp .Eq) oEq := opY1 fun Q φ H h x y v u z R rx ry e q => by
  simp only [oEq, Option.map_eq_some_iff] at e
  obtain ⟨b, e, rfl⟩ := e
  exact (eqD_sound c rx ry e).1 Q (q _ (.bl b))
theorem y_ne (c : Cs k X) : OpY X (compareOp .NotEq) oNe := opY1 fun Q φ H h x y v u z R rx ry e q => by
  simp only [oNe, Option.map_eq_some_iff] at e
  obtain ⟨b, e, rfl⟩ := e
  exact (eqD_sound c rx ry e).2 Q (q _ (.bl (!b)))
theorem y_lt (c : Cs k X) : OpY X (compareOp .Lt) oLt := opY1 fun Q φ H h x y v u z R rx ry e q => by
  cases rx <;> cases ry <;> simp only [oLt] at e <;> try (cases e; done)
  · cases e
    exact ⟨_, op_lt, _, _, rfl, rfl, q _ (.bl _)⟩
  · rename_i a1 d1 v1 h1 r1 a2 d2 v2 h2 r2
    cases e1 : intsOf d1 with
    | none => rw [e1] at e; cases e
    | some ns =>
      cases e2 : intsOf d2 with
      | none => rw [e1, e2] at e; cases e
      | some ms =>
        rw [e1, e2] at e
        cases e
        rw [r1.intsOf e1] at h1
        rw [r2.intsOf e2] at h2
        exact ⟨_, op_ltT c.room.units0, a1, a2, ns, ms, rfl, rfl, h1, h2, q _ (.bl _)⟩
theorem y_le : OpY X (compareOp .LtE) oLe := opY1 fun Q φ H h x y v u z R rx ry e q => by
  cases rx <;> cases ry <;> simp only [oLe] at e <;> try (cases e; done)
  cases e
  exact ⟨_, op_le, _, _, rfl, rfl, q _ (.bl _)⟩
theorem y_gt : OpY X (compareOp .Gt) oGt := opY1 fun Q φ H h x y v u z R rx ry e q => by
  cases rx <;> cases ry <;> simp only [oGt] at e <;> try (cases e; done)
  cases e
  exact ⟨_, op_gt, _, _, rfl, rfl, q _ (.bl _)⟩
theorem y_ge : OpY X (compareOp .GtE) oGe := opY1 fun Q φ H h x y v u z R rx ry e q => by
  cases rx <;> cases ry <;> simp only [oGe] at e <;> try (cases e; done)
  cases e
  exact ⟨_, op_ge, _, _, rfl, rfl, q _ (.bl _)⟩
theorem isN_of {φ : List Addr} {H : Hp} {x : D} {v : V} (r : Rep X.K φ H x v) : isN x = decide (v = .non) := by cases r <;> simp [isN]
theorem y_is : OpY X (compareOp .Is) oIs := opY1 fun Q φ H h x y v u z R rx ry e q => by
  have n := isN_of rx
  cases ry <;> simp only [oIs] at e
  case non =>
    cases e
    refine ⟨_, op_isN, rfl, ?_⟩
    rw [← n]
    exact q _ (.bl _)
  case bl b =>
    cases rx <;> simp at e
    subst e
    exact ⟨_, op_isBl, _, _, rfl, rfl, q _ (.bl _)⟩
  all_goals (cases x <;> cases e)
theorem y_isNot : OpY X (compareOp .IsNot) oIsNot := opY1 fun Q φ H h x y v u z R rx ry e q => by
  have n := isN_of rx
  cases ry <;> simp only [oIsNot] at e
  case non =>
    cases e
    refine ⟨_, op_notN, rfl, ?_⟩
    rw [← n]
    exact q _ (.bl _)
  case bl b =>
    cases rx <;> simp at e
    subst e
    exact ⟨_, op_notBl, _, _, rfl, rfl, q _ (.bl _)⟩
  all_goals (cases x <;> cases e)
end

section
variable {X : Cx} {cl : Nat → Addr} {W : WX} {e a b c : Expr} {es : List Expr} {f g q : Ev} {fa : Av} {t t' : Tv} {pos : Pos} {k : Nat}
/-! ### one operand -/
theorem s_neg (ha : SE X cl W a f) : SE X cl W (.UnaryOp .USub a pos) (e1 uNeg f) := PE.of (pe_un un_neg ha) fun σ H Q p =>
  seq1 (k := fun x h1 => ofO (uNeg h1 x) h1) p fun φ H1 h1 x v r q P => by
    cases q <;> first | exact P.elim | exact ⟨_, rfl, P.val r (.int _)⟩
theorem s_not (ha : SE X cl W a f) : SE X cl W (.UnaryOp .Not a pos) (e1 uNot f) := PE.of (pe_not ha) fun σ H Q p =>
  seq1 (k := fun x h1 => ofO (uNot h1 x) h1) p fun φ H1 h1 x v r q P => by
    cases q <;> first | exact P.elim | exact ⟨_, rfl, P.val r (.bl _)⟩
/-! ### and, or, if as values -/
theorem tG.later {α β : Type} {K : PySem.W.Frag} {Rel : RT α β} {f : Sl → Hm → Rs α} {φ : List Addr} {st : Sl} {σ : L2.St} {H : Hp} {h : Hm} {Q : β → Hp → Prop} (S : SR K φ H st σ) (R : HR K φ H h) (P : Post K cl φ H Rel (f st h) Q fun c d H' => W c d σ H') : tG K cl W Rel f σ H Q := ⟨φ, st, h, S, R, P⟩
/-- an evaluation, then what hangs on it, the slots at hand -/
theorem seqS {α β γ δ : Type} {R1 : RT γ δ} {f : Sl → Hm → Rs γ} {σ : L2.St} {H : Hp} {Q : β → Hp → Prop} {Rel : RT α β} [Back Rel] {k : Sl → γ → Hm → Rs α} {R : δ → Hp → Prop}
    (p : tG X.K cl W Rel (fun σ h => (f σ h).bind fun x h1 => k σ x h1) σ H Q)
    (h : ∀ φ st H1 h1 x v, SR X.K φ H1 st σ → HR X.K φ H1 h1 → R1 H φ H1 x v → Post X.K cl φ H1 Rel (k st x h1) Q (fun c d H' => W c d σ H') → R v H1) :
    tG X.K cl W R1 f σ H R := by
  obtain ⟨φ, st, h0, S, R0, P⟩ := p
  exact ⟨φ, st, h0, S, R0, P.seq fun x h1 φ1 H1 v l1 r1 q1 P1 => h φ1 st H1 h1 x v (S.mono l1) r1 q1 P1⟩
variable {rest : List Expr}
theorem s_one {op} (h : SE X cl W a f) : SE X cl W (.BoolOp op [a] pos) f := pe_one h
theorem s_and (ha : SE X cl W a f) (hb : SE X cl W (.BoolOp .And (b :: rest) pos) g) : SE X cl W (.BoolOp .And (a :: b :: rest) pos) (eAnd f g) := PE.of (pe_and ha hb) fun σ H Q p =>
  seqS (k := fun σ x h1 => match x with | .bl true => g σ h1 | .bl false => .ok (.bl false) h1 | _ => .bad) p fun φ st H1 h1 x v S r q P => by
    cases q <;> first | exact P.elim | skip
    rename_i b
    cases b with
    | true => exact ⟨true, rfl, φ, st, h1, S, r, P⟩
    | false => exact ⟨false, rfl, P.val r (.bl _)⟩
theorem s_or (ha : SE X cl W a f) (hb : SE X cl W (.BoolOp .Or (b :: rest) pos) g) : SE X cl W (.BoolOp .Or (a :: b :: rest) pos) (eOr f g) := PE.of (pe_or ha hb) fun σ H Q p =>
  seqS (k := fun σ x h1 => match x with | .bl false => g σ h1 | .bl true => .ok (.bl true) h1 | _ => .bad) p fun φ st H1 h1 x v S r q P => by
    cases q <;> first | exact P.elim | skip
    rename_i b
    cases b with
    | false => exact ⟨false, rfl, φ, st, h1, S, r, P⟩
    | true => exact ⟨true, rfl, P.val r (.bl _)⟩
theorem s_if (hc : ST X cl W c t) (ha : SE X cl W a f) (hb : SE X cl W b g) : SE X cl W (.IfExp c a b pos) (eIf t f g) := PE.of (pe_ifExp hc ha hb) fun σ H Q p =>
  seqS (k := fun σ x h1 => if x = true then f σ h1 else g σ h1) p fun φ st H1 h1 x v S r q P => by
    cases (show x = v from q)
    cases x with
    | true => exact ⟨φ, st, h1, S, r, P⟩
    | false => exact ⟨φ, st, h1, S, r, P⟩
/-! ### tests -/
theorem w_and1 (ha : ST X cl W a t) : SW X cl W (.BoolOp .And [a] pos) t := pw_and1 ha
theorem w_or1 (ha : ST X cl W a t) : SW X cl W (.BoolOp .Or [a] pos) t := pw_or1 ha
theorem w_and (ha : ST X cl W a t) (hb : SW X cl W (.BoolOp .And (b :: rest) pos) t') : SW X cl W (.BoolOp .And (a :: b :: rest) pos) (tAnd t t') := PW.of (pw_and ha hb) fun σ H Q p =>
  seqS (k := fun σ x h1 => if x = true then t' σ h1 else .ok false h1) p fun φ st H1 h1 x v S r q P => by
    cases (show x = v from q)
    cases x with
    | true => exact ⟨φ, st, h1, S, r, P⟩
    | false => exact P.val r rfl
theorem w_or (ha : ST X cl W a t) (hb : SW X cl W (.BoolOp .Or (b :: rest) pos) t') : SW X cl W (.BoolOp .Or (a :: b :: rest) pos) (tOr t t') := PW.of (pw_or ha hb) fun σ H Q p =>
  seqS (k := fun σ x h1 => if x = true then .ok true h1 else t' σ h1) p fun φ st H1 h1 x v S r q P => by
    cases (show x = v from q)
    cases x with
    | true => exact P.val r rfl
    | false => exact ⟨φ, st, h1, S, r, P⟩
theorem t_w (h : SW X cl W e t) : ST X cl W e t := PW.pt h
theorem t_not (ha : ST X cl W a t) : ST X cl W (.UnaryOp .Not a pos) (tNot t) := PT.of (pt_not ha) fun σ H Q p =>
  seq1 (k := fun x h1 => .ok (!x) h1) p fun φ H1 h1 x v r q P => by
    cases (show x = v from q)
    exact P.val r rfl
theorem truth_sound {φ : List Addr} {H : Hp} {h : Hm} (R : HR X.K φ H h) {x : D} {v : V} (rx : Rep X.K φ H x v) {b : Bool} (e : truth h x = some b) : TruV X.K v H b := by
  have lists : ∀ xs, lstOf h x = some xs → b = !xs.isEmpty → TruV X.K v H b := by
    intro xs e1 e2
    obtain ⟨a, vs, rfl, hq, r⟩ := lst_at R rx e1
    exact .inl ⟨vs, hq, by rw [e2, r.empty]⟩
  have wrap : Option.map (fun xs => !List.isEmpty xs) (lstOf h x) = some b → TruV X.K v H b := fun e => by
    obtain ⟨xs, e1, e2⟩ := Option.map_eq_some_iff.mp e
    exact lists xs e1 e2.symm
  cases rx
  case non => simp only [truth] at e; cases e; rfl
  case bl => simp only [truth] at e; cases e; rfl
  case int =>
    simp only [truth] at e; cases e
    show _ = _
    rw [Bool.eq_iff_iff]
    simp
  case str x =>
    simp only [truth] at e
    split at e
    · rename_i hx
      cases e
      refine ⟨by rw [← line_eq]; exact hx, ?_⟩
      rw [Bool.eq_iff_iff]
      simp <;> omega
    · cases e
  case tup a ds vs h r =>
    simp only [truth] at e
    cases e
    exact .inr (.inl ⟨vs, h, by rw [r.empty]⟩)
  case fl => exact wrap e
  case sq => exact wrap e
  case loc => exact wrap e
theorem t_tr (ha : SE X cl W a f) (he : ∀ whole, isTrue a X.env whole = (do let v ← whole; standAt a.pos; holding [v] (truthy v)) := by intro _; rfl) : ST X cl W a (tT f) := PT.of (pt_truth ha he) fun σ H Q p =>
  seq1 (k := fun x h1 => ofO (truth h1 x) h1) p fun φ H1 h1 x v r q P => by
    cases e : truth h1 x with
    | none => rw [e] at P; exact P.elim
    | some b =>
      rw [e] at P
      exact ⟨b, truth_sound r q e, P.val r rfl⟩
/-! ### a chain of two comparisons -/
theorem chain_imp {o o' : Hm → D → D → Option D} {σ : L2.St} {H : Hp} {Q : VK} (p : tG X.K cl W (RR X.K) (eCh o o' f g q) σ H Q) : tChain (rY X.K o) (rY X.K o') (tG X.K cl W (RR X.K) f) (tG X.K cl W (RR X.K) g) (tG X.K cl W (RR X.K) q) σ H Q := by
  obtain ⟨φ, st, h0, S, R0, P⟩ := p
  refine ⟨φ, st, h0, S, R0, P.seq fun x h1 φ1 H1 v l1 r1 q1 P1 => ⟨φ1, st, h1, S.mono l1, r1, P1.seq fun y h2 φ2 H2 u l2 r2 q2 P2 => ?_⟩⟩
  refine ⟨cl, fun c d H' => W c d σ H', φ2, h2, x, y, r2, Rep.mono l2.pre l2.per _ _ q1, q2, ?_⟩
  cases e : o h2 x y with
  | none => rw [e] at P2; exact P2.elim
  | some z =>
    rw [e] at P2
    intro φ3 H3 w l3 r3 q3
    cases q3 <;> first | exact P2.elim | skip
    rename_i bb
    refine ⟨bb, rfl, ?_⟩
    cases bb with
    | false => exact P2 φ3 H3 _ l3 r3 (.bl _)
    | true =>
      rw [if_pos rfl]
      have P3 := Post.lat P2 l3
      refine ⟨φ3, st, h2, S.mono (l1.trans (l2.trans l3)), r3, P3.seq fun z h4 φ4 H4 w l4 r4 q4 P4 => ?_⟩
      exact ⟨cl, fun c d H' => W c d σ H', φ4, h4, y, z, r4, Rep.mono (l3.trans l4).pre (l3.trans l4).per _ _ q2, q4, P4⟩
theorem s_chain {op op' : CmpOp} {o o' : Hm → D → D → Option D} (ho : OpY X (compareOp op) o) (ho' : OpY X (compareOp op') o') (ha : SE X cl W a f) (hb : SE X cl W b g) (hc : SE X cl W c q)
    (hm : lastMarks [op, op'] [b, c] = false := by with_unfolding_all rfl) : SE X cl W (.Compare a [op, op'] [b, c] pos) (eCh o o' f g q) := PE.of (pe_chain ho.r ho'.r ha hb hc hm) fun σ H Q p => chain_imp p
theorem t_chain {op op' : CmpOp} {o o' : Hm → D → D → Option D} (ho : OpY X (compareOp op) o) (ho' : OpY X (compareOp op') o') (ha : SE X cl W a f) (hb : SE X cl W b g) (hc : SE X cl W c q)
    (hm : lastMarks [op, op'] [b, c] = false := by with_unfolding_all rfl) : ST X cl W (.Compare a [op, op'] [b, c] pos) (tB (eCh o o' f g q)) := PT.of (pt_chain ho.r ho'.r ha hb hc hm) fun σ H Q p => by
  refine chain_imp ?_
  refine seq1 (k := fun x h1 => match x with | .bl b => .ok b h1 | _ => .bad) p fun φ H1 h1 x v r q P => ?_
  cases q with
  | bl b => exact ⟨b, rfl, P.val r rfl⟩
  | _ => exact P.elim

/-! ### argument lists, displays -/
theorem a_nil : SA X cl W [] aN := PA.of pa_nil fun σ H Q ⟨φ, st, h0, S, R, P⟩ => P.val R .nil
theorem a_cons (ha : SE X cl W e f) (hr : SA X cl W es fa) (hs : starEach (e :: es) X.env = (false, eval e X.env) :: starEach es X.env := by rfl) : SA X cl W (e :: es) (aC f fa) := PA.of (pa_cons ha hr hs) fun σ H Q p => by
  obtain ⟨φ, st, h0, S, R0, P⟩ := p
  refine ⟨φ, st, h0, S, R0, P.seq fun x h1 φ1 H1 v l1 r1 q1 P1 => ⟨φ1, st, h1, S.mono l1, r1, P1.seq fun xs h2 φ2 H2 vs l2 r2 q2 P2 => ?_⟩⟩
  exact P2.val r2 (.cons (Rep.mono l2.pre l2.per _ _ q1) q2)
theorem s_tup {x1} (h : SA X cl W es fa) : SE X cl W (.Tuple es x1 pos) (eTup fa) := PE.of (pe_tup h) fun σ H Q p =>
  seq1 (k := fun xs h1 => if xs.length ≤ line then Rs.ok (D.tup xs) h1 else .bad) p fun φ H1 h1 xs vs r q P => by
    split at P
    · rename_i hz
      refine ⟨by rw [← q.length, ← line_eq]; exact hz, fun p hp => P φ _ _ (Lat.new hp) (r.new hp) (.tup (.of upd_same) (RepL.mono (List.prefix_refl _) (Per.new hp) _ _ q))⟩
    · exact P.elim
theorem fresh_new {φ : List Addr} {H : Hp} {h : Hm} (r : HR X.K φ H h) {p : Addr} (hp : H p = none) {ds : List D} {vs : List V} (q : RepL X.K φ H ds vs) : Fresh X.K H φ (upd H p (.lst vs)) ds (.ref p) :=
  ⟨p, vs, rfl, hp, r.notin hp, upd_same, RepL.mono (List.prefix_refl _) (Per.new hp) _ _ q⟩
theorem l_lst (h : SA X cl W es fa) : SL X cl W (.List es pos) (lLst fa) := PE.of (pe_lst h) fun σ H Q p =>
  seq1 (k := fun xs h1 => if xs.length ≤ line then Rs.ok xs h1 else .bad) p fun φ H1 h1 xs vs r q P => by
    split at P
    · rename_i hz
      exact ⟨by rw [← q.length, ← line_eq]; exact hz, fun p hp => P φ _ _ (Lat.new hp) (r.new hp) (fresh_new r hp q)⟩
    · exact P.elim
end
end Y
end

section
set_option Elab.async false
set_option linter.all false
set_option maxRecDepth 100000
set_option maxHeartbeats 2000000
/-! YF: places, built-in calls, targets, loops, comprehensions, statements. -/
namespace Y
open PySem PySem.Spec PyProof.Rows L2

section
variable {X : Cx} {cl : Nat → Addr} {W : WX} {e a b c : Expr} {es : List Expr} {f g q : Ev} {fa : Av} {t t' : Tv} {pos : Pos} {k : Nat}
/-! ### x[y] -/
theorem RepL.atI {K : PySem.W.Frag} {φ : List Addr} {H : Hp} {ds : List D} {vs : List V} {i : Int} {d : D} (r : RepL K φ H ds vs) (e : atI ds i = some d) : ∃ v, L2.atI vs i = some v ∧ Rep K φ H d v := by
  unfold L2.atI at e ⊢
  rw [r.length] at e
  cases h : ixN vs.length i with
  | none => rw [h] at e; cases e
  | some j =>
    rw [h] at e
    obtain ⟨v, h1, h2⟩ := r.get (i := j) (by simpa using e)
    exact ⟨v, by simpa using h1, h2⟩
def rD : R2 := fun x y H Q => ∃ a v, x = .ref a ∧ DGet H a y (some v) ∧ Q v H
theorem ix_dict (hu : X.A.units + 1 < cLine) : IxR X rD := fun value slice pins s σ H x y v u Q I rx ry h hs => by
  obtain ⟨a, w, rfl, g, q⟩ := h
  cases rx
  exact tail_any (dict_typeIs I g) PySem.F.slot_dict_getitem.lookup (d_getItem hu I g ry fun w' s' I' r' => ⟨w, H, I', r', q⟩) hs
theorem key_of_rep {K : PySem.W.Frag} {φ : List Addr} {H : Hp} {y : D} {u : V} {k : Key} (r : Rep K φ H y u) (e : keyOf y = some k) : u = kV k := by
  cases r <;> simp [keyOf] at e <;> subst e <;> rfl
def rI (K : PySem.W.Frag) : R2 := fun x y H Q => rIx K x y H Q ∨ rD x y H Q
theorem ix_all (hu : X.A.units + 1 < cLine) : IxR X (rI X.K) := ix_seq.or (ix_dict hu)
theorem ixD_sound {φ : List Addr} {H : Hp} {h : Hm} {x y z : D} {v u : V} (R : HR X.K φ H h) (rx : Rep X.K φ H x v) (ry : Rep X.K φ H y u) (e : ixD h x y = some z) {Q : VK} (q : ∀ w, Rep X.K φ H z w → Q w H) : rIx X.K v u H Q := by
  have seqs : ∀ xs i, lstOf h x = some xs → y = .int i → atI xs i = some z → rIx X.K v u H Q := by
    intro xs i e1 e2 e3
    subst e2
    cases ry
    obtain ⟨a, vs, rfl, hq, r⟩ := lst_at R rx e1
    obtain ⟨w, h1, h2⟩ := r.atI e3
    exact .inl ⟨a, vs, i, w, rfl, rfl, hq, h1, q w h2⟩
  cases y <;> simp only [ixD] at e <;> try (cases x <;> cases e; done)
  rename_i i
  cases x <;> simp only [ixD, seqOf] at e
  case str x =>
    cases rx; cases ry
    split at e
    · rename_i hx
      obtain ⟨c, hc, rfl⟩ := Option.map_eq_some_iff.mp e
      exact .inr (.inr ⟨x, i, c, rfl, rfl, by rw [← line_eq]; exact hx, hc, q _ (.str _)⟩)
    · cases e
  case tup xs =>
    cases ry
    cases rx with
    | tup hq r =>
      obtain ⟨w, h1, h2⟩ := r.atI (by simpa using e)
      exact .inr (.inl ⟨_, _, i, w, rfl, rfl, hq, h1, q w h2⟩)
  all_goals (obtain ⟨xs, e1, e2⟩ := Option.bind_eq_some_iff.mp e; exact seqs xs i e1 rfl e2)
theorem s_ix (c0 : Cs k X) (ha : SE X cl W a f) (hb : SE X cl W b g) (hs : PlainIx b) : SE X cl W (.Subscript a b pos) (e2 oIx f g) := PE.of (pe_ix (ix_all c0.hu) ha hb hs) fun σ H Q p =>
  seq2 p fun φ H2 h2 x y v u R rx ry P => by
    cases e : oIx h2 x y with
    | none => rw [e] at P; exact P.elim
    | some z =>
      rw [e] at P
      have q : ∀ w, Rep X.K φ H2 z w → Q w H2 := fun w hw => P.val R hw
      unfold oIx at e
      cases e1 : dctOf h2 x with
      | none =>
        rw [e1] at e
        exact .inl (ixD_sound R rx ry e q)
      | some kvs =>
        rw [e1] at e
        simp only [oDget, e1] at e
        cases e2 : keyOf y with
        | none => rw [e2] at e; cases e
        | some ky =>
          rw [e2] at e
          have e3 := key_of_rep ry e2
          subst e3
          cases rx <;> simp only [dctOf] at e1 <;> try (cases e1; done)
          rename_i n ad hk
          obtain ⟨ob, h3, h4⟩ := R.at hk
          rw [h3] at e1
          cases ob <;> simp at e1
          subst e1
          cases h4 with
          | dct hh rr =>
            rcases rr.get ky with ⟨z1, _⟩ | ⟨dd, w, z1, z2, z3⟩
            · have e' : (none : Option D) = some z := by rw [← z1]; exact e
              cases e'
            · have e' : some dd = some z := by rw [← z1]; exact e
              cases e'
              refine .inr ⟨ad, w, rfl, ?_, q w z3⟩
              rw [← z2]
              exact .k hh

/-! ### isinstance -/
def tyName : Ty → String
  | .int => "int" | .bool => "bool" | .tuple => "tuple" | .list => "list" | .str => "str" | .dict => "dict"
theorem kits (T : Ty) : kitB "NoneType" (tyName T) = some false ∧ kitB "bool" (tyName T) = some (match T with | .int => true | .bool => true | _ => false) ∧ kitB "int" (tyName T) = some (match T with | .int => true | _ => false) ∧
    kitB "str" (tyName T) = some (match T with | .str => true | _ => false) ∧ kitB "tuple" (tyName T) = some (match T with | .tuple => true | _ => false) ∧ kitB "list" (tyName T) = some (match T with | .list => true | _ => false) ∧ kitB "dict" (tyName T) = some (match T with | .dict => true | _ => false) := by
  cases T <;> decide +kernel
theorem inst_sound {φ : List Addr} {H : Hp} {h : Hm} {x : D} {v : V} {T : Ty} {r : Bool} (R : HR X.K φ H h) (rx : Rep X.K φ H x v) (e : instD h T x = some r) : ∃ t, TyX X.K H v t ∧ PySem.W.kitOne X.K t (.type (tyName T)) = some r := by
  obtain ⟨k1, k2, k3, k4, k5, k6, k7⟩ := kits T
  have tupK : ∀ {a : Addr} {vs : List V}, SqT X.K H a vs → TyX X.K H (.ref a) (.type "tuple") := fun hq => by
    rcases hq with (h | ⟨o, h⟩) | ⟨o, its, n, hk, hc, _⟩
    · exact .base (.tup h)
    · exact .fTuple h
    · exact .kTuple hk hc
  have lstK : ∀ {a : Addr} {vs : List V}, SqL X.K H a vs → TyX X.K H (.ref a) (.type "list") := fun hq => by
    rcases hq with (h | ⟨o, h⟩) | ⟨o, its, n, hk, hc, _⟩
    · exact .base (.lst h)
    · exact .base (.frz h)
    · exact .kList hk hc
  cases rx with
  | non => refine ⟨_, .base .non, kit_ty ?_⟩; rw [k1]; cases T <;> simpa [instD] using e
  | bl b => refine ⟨_, .base (.bl b), kit_ty ?_⟩; rw [k2]; cases T <;> simpa [instD] using e
  | int b => refine ⟨_, .base (.int b), kit_ty ?_⟩; rw [k3]; cases T <;> simpa [instD] using e
  | str b => refine ⟨_, .base (.str b), kit_ty ?_⟩; rw [k4]; cases T <;> simpa [instD] using e
  | tup hq _ => refine ⟨_, tupK hq, kit_ty ?_⟩; rw [k5]; cases T <;> simpa [instD] using e
  | fl hq _ => refine ⟨_, lstK (.inl (.inr ⟨_, hq⟩)), kit_ty ?_⟩; rw [k6]; cases T <;> simpa [instD] using e
  | sq hq _ => refine ⟨_, lstK hq.sq, kit_ty ?_⟩; rw [k6]; cases T <;> simpa [instD] using e
  | loc hk =>
    obtain ⟨ob, h1, h2⟩ := R.at hk
    cases h2 with
    | lst hh _ => refine ⟨_, .base (.lst hh), kit_ty ?_⟩; rw [k6]; cases T <;> simpa [instD, h1] using e
    | dct hh _ => refine ⟨_, .base (.dK hh), kit_ty ?_⟩; rw [k7]; cases T <;> simpa [instD, h1] using e
theorem s_isi {p1 p2 : Pos} (T : Ty) (ha : SE X cl W a f) (hg : Gl X "isinstance" := by rfl) (hm : X.mg "isinstance" = none) (hg2 : Gl X (Str.ofString (tyName T)) := by rfl) (hm2 : X.mg (Str.ofString (tyName T)) = none)
    (hb : bootBuiltins (Str.ofString (tyName T)) = some (.type (tyName T))) (hn : Str.ofString (tyName T) ≠ "__name__") (hd : (Str.ofString (tyName T) == ("__debug__" : Str)) = false)
    (he : starEach [a, .Name (Str.ofString (tyName T)) p2] X.env = (false, eval a X.env) :: starEach [.Name (Str.ofString (tyName T)) p2] X.env := by rfl)
    (he2 : starEach [.Name (Str.ofString (tyName T)) p2] X.env = (false, eval (.Name (Str.ofString (tyName T)) p2) X.env) :: starEach [] X.env := by rfl)
    (hpl : (backTo pos (starEach [.Name (Str.ofString (tyName T)) p2] X.env)).any (·.1) = false := by rfl) :
    SE X cl W (.Call (.Name "isinstance" p1) [a, .Name (Str.ofString (tyName T)) p2] [] pos) (eIs T f) := by
  refine PE.of (pe_callB call_isi hg hm (by decide +kernel) (pa_cons ha (pa_cons (pe_bltn (v := .ty (tyName T)) hg2 hm2 hb rfl hn hd) pa_nil he2) he) (by decide) (by decide) he hpl) fun σ H Q p => ?_
  refine seq1 (k := fun x h1 => ofO ((instD h1 T x).map D.bl) h1) p fun φ H1 h1 x v R rx P => ?_
  cases e : instD h1 T x with
  | none => rw [e] at P; exact P.elim
  | some r =>
    rw [e] at P
    obtain ⟨t, h2, h3⟩ := inst_sound R rx e
    exact ⟨v, .ty (tyName T), t, .type (tyName T), r, rfl, .ty _, h2, h3, P.val R (.bl r)⟩

/-! ### built-in functions, by values -/
def rC (K : PySem.W.Frag) {β : Type} (o : Hm → List D → Option β) (Rel : RT β V) : List V → Hp → VK → Prop := fun vs H Q => ∃ (cl : Nat → Addr) (We : WE') (φ : List Addr) (h : Hm) (xs : List D), HR K φ H h ∧ RepL K φ H xs vs ∧ Post K cl φ H Rel (ofO (o h xs) h) Q We
/-- a built-in's meaning -/
def CaY (X : Cx) (F : Value) (o : Hm → List D → Option D) : Prop := CallR X F (rC X.K o (RR X.K))
def CaL (X : Cx) (F : Value) (o : Hm → List D → Option (List D)) : Prop := CallR X F (rC X.K o (Fresh X.K))
theorem caY {F : Value} {o : Hm → List D → Option D} (h : ∀ (Q : VK) (φ : List Addr) (H : Hp) (h : Hm) (xs : List D) (vs : List V) (z : D), HR X.K φ H h → RepL X.K φ H xs vs → o h xs = some z →
    (∀ φ' H' w, Lat φ H φ' H' → HR X.K φ' H' h → Rep X.K φ' H' z w → Q w H') → ∃ r, CallR X F r ∧ r vs H Q) : CaY X F o := fun pins s σ H vs us Q I r ⟨cl, We, φ, hh, xs, R, q, P⟩ => by
  cases e : o hh xs with
  | none => rw [e] at P; exact P.elim
  | some z =>
    rw [e] at P
    obtain ⟨r', h1, h2⟩ := h Q φ H hh xs vs z R q e P
    exact h1 pins s σ H vs us Q I r h2
theorem caL {F : Value} {o : Hm → List D → Option (List D)} (h : ∀ (Q : VK) (φ : List Addr) (H : Hp) (h : Hm) (xs : List D) (vs : List V) (z : List D), HR X.K φ H h → RepL X.K φ H xs vs → o h xs = some z →
    (∀ φ' H' w, Lat φ H φ' H' → HR X.K φ' H' h → Fresh X.K H φ' H' z w → Q w H') → ∃ r, CallR X F r ∧ r vs H Q) : CaL X F o := fun pins s σ H vs us Q I r ⟨cl, We, φ, hh, xs, R, q, P⟩ => by
  cases e : o hh xs with
  | none => rw [e] at P; exact P.elim
  | some z =>
    rw [e] at P
    obtain ⟨r', h1, h2⟩ := h Q φ H hh xs vs z R q e P
    exact h1 pins s σ H vs us Q I r h2
theorem RepL.one {φ : List Addr} {H : Hp} {K : PySem.W.Frag} {d : D} {vs : List V} (r : RepL K φ H [d] vs) : ∃ v, vs = [v] ∧ Rep K φ H d v := by
  cases r with
  | cons h r => cases r; exact ⟨_, rfl, h⟩
theorem seq_at {φ : List Addr} {H : Hp} {h : Hm} (R : HR X.K φ H h) {x : D} {v : V} (rx : Rep X.K φ H x v) {xs : List D} (e : seqOf h x = some xs) : ∃ a vs, v = .ref a ∧ (SqL X.K H a vs ∨ SqT X.K H a vs) ∧ RepL X.K φ H xs vs := by
  cases rx
  case tup a ds vs hq r => simp [seqOf] at e; subst e; exact ⟨a, vs, rfl, .inr hq, r⟩
  case fl a o ds vs hq r => obtain ⟨a, vs, e1, e2, e3⟩ := lst_at R (.fl hq r) e; exact ⟨a, vs, e1, .inl e2, e3⟩
  case sq a ds vs hq r => obtain ⟨a, vs, e1, e2, e3⟩ := lst_at R (.sq hq r) e; exact ⟨a, vs, e1, .inl e2, e3⟩
  case loc k a hk => obtain ⟨a, vs, e1, e2, e3⟩ := lst_at R (.loc hk) e; exact ⟨a, vs, e1, .inl e2, e3⟩
  all_goals (simp [seqOf, lstOf] at e)
theorem c_len : CaY X (.builtin "len") bLen := caY fun Q φ H h xs vs z R r e q => by
  rcases xs with _ | ⟨d, _ | _⟩
  · simp [bLen] at e
  · obtain ⟨v, rfl, rd⟩ := r.one
    have gen : (seqOf h d).map (fun xs => D.int xs.length) = some z → ∃ r, CallR X (.builtin "len") r ∧ r [v] H Q := fun e => by
      obtain ⟨ys, e1, rfl⟩ := Option.map_eq_some_iff.mp e
      obtain ⟨a, us, rfl, hq, rr⟩ := seq_at R rd e1
      refine ⟨_, call_len_seq, a, us, rfl, hq, ?_⟩
      rw [← rr.length]
      exact q φ H _ (Lat.refl _ _) R (.int _)
    cases d
    case str x =>
      cases rd
      simp only [bLen] at e
      split at e
      · rename_i hx
        cases e
        exact ⟨_, call_len_str, x, rfl, by rw [← line_eq]; exact hx, q φ H _ (Lat.refl _ _) R (.int _)⟩
      · cases e
    all_goals exact gen e
  · simp [bLen] at e
theorem c_int : CaY X (.type "int") bInt := caY fun Q φ H h xs vs z R r e q => by
  rcases xs with _ | ⟨d, _ | _⟩ <;> simp only [bInt] at e <;> try (cases e; done)
  · obtain ⟨v, rfl, rd⟩ := r.one
    cases rd <;> simp only [bInt] at e <;> try (cases e; done)
    · cases e; exact ⟨_, call_int1, .inr ⟨_, rfl, q φ H _ (Lat.refl _ _) R (.int _)⟩⟩
    · cases e; exact ⟨_, call_int1, .inl ⟨_, rfl, q φ H _ (Lat.refl _ _) R (.int _)⟩⟩
theorem c_abs : CaY X (.builtin "abs") bAbs := caY fun Q φ H h xs vs z R r e q => by
  rcases xs with _ | ⟨d, _ | _⟩ <;> simp only [bAbs] at e <;> try (cases e; done)
  · obtain ⟨v, rfl, rd⟩ := r.one
    cases rd <;> simp only [bAbs] at e <;> try (cases e; done)
    cases e; exact ⟨_, call_abs, _, rfl, q φ H _ (Lat.refl _ _) R (.int _)⟩
theorem c_all (hc : X.calm = true) : CaY X (.builtin "all") bAll := caY fun Q φ H h xs vs z R r e q => by
  rcases xs with _ | ⟨d, _ | _⟩ <;> simp only [bAll] at e <;> try (cases e; done)
  obtain ⟨v, rfl, rd⟩ := r.one
  cases e1 : (lstOf h d).bind bools with
  | none => rw [e1] at e; cases e
  | some bs =>
    rw [e1] at e
    cases e
    obtain ⟨ys, e2, e3⟩ := Option.bind_eq_some_iff.mp e1
    obtain ⟨a, us, rfl, hq, rr⟩ := lst_at R rd e2
    rw [rr.bools e3] at hq
    exact ⟨_, cr_all hc, a, bs, rfl, hq, q φ H _ (Lat.refl _ _) R (.bl _)⟩
theorem c_any (hc : X.calm = true) : CaY X (.builtin "any") bAny := caY fun Q φ H h xs vs z R r e q => by
  rcases xs with _ | ⟨d, _ | _⟩ <;> simp only [bAny] at e <;> try (cases e; done)
  obtain ⟨v, rfl, rd⟩ := r.one
  cases e1 : (lstOf h d).bind bools with
  | none => rw [e1] at e; cases e
  | some bs =>
    rw [e1] at e
    cases e
    obtain ⟨ys, e2, e3⟩ := Option.bind_eq_some_iff.mp e1
    obtain ⟨a, us, rfl, hq, rr⟩ := lst_at R rd e2
    rw [rr.bools e3] at hq
    exact ⟨_, cr_any hc, a, bs, rfl, hq, q φ H _ (Lat.refl _ _) R (.bl _)⟩
theorem c_sum (hc : X.calm = true) : CaY X (.builtin "sum") bSum := caY fun Q φ H h xs vs z R r e q => by
  rcases xs with _ | ⟨d, _ | _⟩ <;> simp only [bSum] at e <;> try (cases e; done)
  obtain ⟨v, rfl, rd⟩ := r.one
  cases e1 : (lstOf h d).bind intsOf with
  | none => rw [e1] at e; cases e
  | some bs =>
    rw [e1] at e
    cases e
    obtain ⟨ys, e2, e3⟩ := Option.bind_eq_some_iff.mp e1
    obtain ⟨a, us, rfl, hq, rr⟩ := lst_at R rd e2
    rw [rr.intsOf e3] at hq
    exact ⟨_, cr_sum hc, a, bs, rfl, hq, q φ H _ (Lat.refl _ _) R (.int _)⟩
theorem c_list : CaL X (.type "list") mList := caL fun Q φ H h xs vs z R r e q => by
  rcases xs with _ | ⟨d, _ | _⟩ <;> simp only [mList] at e <;> try (cases e; done)
  obtain ⟨v, rfl, rd⟩ := r.one
  obtain ⟨a, us, rfl, hq, rr⟩ := seq_at R rd e
  exact ⟨_, call_list_of, a, us, rfl, hq, fun l hl => q φ _ _ (Lat.new hl) (R.new hl) (fresh_new R hl rr)⟩
theorem c_tuple : CaY X (.type "tuple") bTuple := caY fun Q φ H h xs vs z R r e q => by
  rcases xs with _ | ⟨d, _ | _⟩ <;> simp only [bTuple] at e <;> try (cases e; done)
  · obtain ⟨v, rfl, rd⟩ := r.one
    have gen : (lstOf h d).map D.tup = some z → ∃ r, CallR X (.type "tuple") r ∧ r [v] H Q := fun e => by
      obtain ⟨ys, e1, rfl⟩ := Option.map_eq_some_iff.mp e
      obtain ⟨a, us, rfl, hq, rr⟩ := lst_at R rd e1
      exact ⟨_, call_tuple_of, a, us, rfl, .inl ⟨hq, fun l hl => q φ _ _ (Lat.new hl) (R.new hl) (.tup (.of upd_same) (RepL.mono (List.prefix_refl _) (Per.new hl) _ _ rr))⟩⟩
    cases d
    case tup xs =>
      simp only [bTuple] at e
      cases e
      cases rd with
      | tup hq rr => exact ⟨_, call_tuple_of, _, _, rfl, .inr ⟨hq, q φ H _ (Lat.refl _ _) R (.tup hq rr)⟩⟩
    all_goals exact gen e
/-- f(..), f a built-in function by its name -/
theorem s_b {x : Str} {id : String} {p : Pos} {o : Hm → List D → Option D} (hc : CaY X (.builtin id) o) (hg : Gl X x) (hm : X.mg x = none) (hv : bootBuiltins x = some (.builtin id)) (ha : SA X cl W (e :: es) fa) (hn : x ≠ "__name__" := by decide) (hdb : (x == ("__debug__" : Str)) = false := by decide)
    (he : starEach (e :: es) X.env = (false, eval e X.env) :: starEach es X.env := by rfl) (hpl : (backTo pos (starEach es X.env)).any (·.1) = false := by rfl) : SE X cl W (.Call (.Name x p) (e :: es) [] pos) (eB o fa) := PE.of (pe_callB hc hg hm hv ha hn hdb he hpl) fun σ H Q p =>
  seq1 (k := fun xs h1 => ofO (o h1 xs) h1) p fun φ H1 h1 xs vs R r P => ⟨cl, fun c d H' => W c d σ H', φ, h1, xs, R, r, P⟩
theorem s_bT {x : Str} {id : String} {p : Pos} {o : Hm → List D → Option D} (hc : CaY X (.type id) o) (hg : Gl X x) (hm : X.mg x = none) (hv : bootBuiltins x = some (.type id)) (ha : SA X cl W (e :: es) fa) (hn : x ≠ "__name__" := by decide) (hdb : (x == ("__debug__" : Str)) = false := by decide)
    (he : starEach (e :: es) X.env = (false, eval e X.env) :: starEach es X.env := by rfl) (hpl : (backTo pos (starEach es X.env)).any (·.1) = false := by rfl) : SE X cl W (.Call (.Name x p) (e :: es) [] pos) (eB o fa) := PE.of (pe_callTy hc hg hm hv ha hn hdb he hpl) fun σ H Q p =>
  seq1 (k := fun xs h1 => ofO (o h1 xs) h1) p fun φ H1 h1 xs vs R r P => ⟨cl, fun c d H' => W c d σ H', φ, h1, xs, R, r, P⟩
theorem l_bT {x : Str} {id : String} {p : Pos} {o : Hm → List D → Option (List D)} (hc : CaL X (.type id) o) (hg : Gl X x) (hm : X.mg x = none) (hv : bootBuiltins x = some (.type id)) (ha : SA X cl W (e :: es) fa) (hn : x ≠ "__name__" := by decide) (hdb : (x == ("__debug__" : Str)) = false := by decide)
    (he : starEach (e :: es) X.env = (false, eval e X.env) :: starEach es X.env := by rfl) (hpl : (backTo pos (starEach es X.env)).any (·.1) = false := by rfl) : SL X cl W (.Call (.Name x p) (e :: es) [] pos) (lB o fa) := PE.of (pe_callTy hc hg hm hv ha hn hdb he hpl) fun σ H Q p =>
  seq1 (k := fun xs h1 => ofO (o h1 xs) h1) p fun φ H1 h1 xs vs R r P => ⟨cl, fun c d H' => W c d σ H', φ, h1, xs, R, r, P⟩
theorem l_b {x : Str} {id : String} {p : Pos} {o : Hm → List D → Option (List D)} (hc : CaL X (.builtin id) o) (hg : Gl X x) (hm : X.mg x = none) (hv : bootBuiltins x = some (.builtin id)) (ha : SA X cl W (e :: es) fa) (hn : x ≠ "__name__" := by decide) (hdb : (x == ("__debug__" : Str)) = false := by decide)
    (he : starEach (e :: es) X.env = (false, eval e X.env) :: starEach es X.env := by rfl) (hpl : (backTo pos (starEach es X.env)).any (·.1) = false := by rfl) : SL X cl W (.Call (.Name x p) (e :: es) [] pos) (lB o fa) := PE.of (pe_callB hc hg hm hv ha hn hdb he hpl) fun σ H Q p =>
  seq1 (k := fun xs h1 => ofO (o h1 xs) h1) p fun φ H1 h1 xs vs R r P => ⟨cl, fun c d H' => W c d σ H', φ, h1, xs, R, r, P⟩
end
end Y
end

section
set_option Elab.async false
set_option linter.all false
set_option maxRecDepth 100000
set_option maxHeartbeats 2000000
/-! YG: targets, loops, comprehensions, statements. -/
namespace Y
open PySem PySem.Spec PyProof.Rows L2

/-! ### targets -/
/-- all but the slots at is stand -/
def Chg (is : List Nat) (σ τ : L2.St) : Prop := τ.length = σ.length ∧ ∀ j, j ∉ is → τ[j]? = σ[j]?
theorem Chg.trans {is js : List Nat} {σ τ υ : L2.St} (a : Chg is σ τ) (b : Chg js τ υ) : Chg (is ++ js) σ υ :=
  ⟨b.1.trans a.1, fun j n => by rw [List.mem_append, not_or] at n; rw [b.2 j n.2, a.2 j n.1]⟩
theorem Chg.set {i : Nat} {o : Option V} (σ : L2.St) : Chg [i] σ (σ.set i o) := ⟨by simp, fun j n => by rw [List.getElem?_set_ne (fun e => n (by simp [e]))]⟩
theorem wipe_get (σ : L2.St) : ∀ (vs : List Nat) (j : Nat), j ∉ vs → (wipe σ vs)[j]? = σ[j]?
  | [], _, _ => rfl
  | v :: vs, j, n => by
    rw [List.mem_cons, not_or] at n
    show ((wipe σ vs).set v none)[j]? = _
    rw [List.getElem?_set_ne (Ne.symm n.1), wipe_get σ vs j n.2]
theorem wipe_in (σ : L2.St) : ∀ (vs : List Nat) (j : Nat), j ∈ vs → j < σ.length → (wipe σ vs)[j]? = some none
  | [], _, m, _ => by cases m
  | v :: vs, j, m, l => by
    show ((wipe σ vs).set v none)[j]? = _
    by_cases e : j = v
    · subst e
      rw [List.getElem?_set_self (by rw [wipe_length]; exact l)]
    · rw [List.getElem?_set_ne (Ne.symm e)]
      exact wipe_in σ vs j ((List.mem_cons.mp m).resolve_left e) l
theorem Chg.wipe {is vs : List Nat} {σ τ : L2.St} (c : Chg is σ τ) (h : ∀ i ∈ is, i ∈ vs) : wipe τ vs = L2.wipe σ vs := by
  apply List.ext_getElem?
  intro j
  by_cases m : j ∈ vs
  · by_cases l : j < σ.length
    · rw [wipe_in τ vs j m (by rw [c.1]; exact l), wipe_in σ vs j m l]
    · rw [List.getElem?_eq_none (by rw [wipe_length, c.1]; omega), List.getElem?_eq_none (by rw [wipe_length]; omega)]
  · rw [wipe_get τ vs j m, wipe_get σ vs j m]
    exact c.2 j fun i => m (h j i)
theorem wipe_wipe (σ : L2.St) (vs : List Nat) : wipe (wipe σ vs) vs = wipe σ vs := Chg.wipe (is := vs) ⟨wipe_length σ vs, fun j n => wipe_get σ vs j n⟩ fun _ h => h
def tGv (K : PySem.W.Frag) (g : Gv) (is : List Nat) : TG := fun v σ H Q => ∃ φ st d st1, SR K φ H st σ ∧ Rep K φ H d v ∧ g d st = some st1 ∧ ∀ τ, SR K φ H st1 τ → Chg is σ τ → Q τ H
def tGvs (K : PySem.W.Frag) (gs : List Gv) (is : List Nat) : TGs := fun vs σ H Q => ∃ φ st ds st1, SR K φ H st σ ∧ RepL K φ H ds vs ∧ gTs gs ds st = some st1 ∧ ∀ τ, SR K φ H st1 τ → Chg is σ τ → Q τ H
abbrev SG (X : Cx) (e : Expr) (g : Gv) (is : List Nat) : Prop := PG X e (tGv X.K g is)
theorem PG.of {X : Cx} {e : Expr} {t t' : TG} (h : PG X e t) (i : ∀ v σ H Q, t' v σ H Q → t v σ H Q) : PG X e t' := ⟨fun pins s σ H v u Q I r q => h.run pins s σ H v u Q I r (i v σ H Q q)⟩
theorem PGs.of {X : Cx} {e : List Expr} {t t' : TGs} (h : PGs X e t) (i : ∀ v σ H Q, t' v σ H Q → t v σ H Q) : PGs X e t' := ⟨fun pins s σ H v u Q I r q => h.run pins s σ H v u Q I r (i v σ H Q q)⟩
section
variable {X : Cx} {pos : Pos}
theorem g_n (i : Nat) {x : Str} (hN : X.N.Nodup) (hi : X.N[i]? = some x := by rfl) (hx : Loc X.env.scope x := by first | exact Or.inl rfl | exact Or.inr rfl) (hf : X.fn x = true ∨ X.env.scope.names.lookup x = some .local := by first | exact .inl rfl | exact .inr rfl | assumption) : SG X (.Name x pos) (gN i) [i] :=
  PG.of (pg_name hN hi hx hf) fun v σ H Q ⟨φ, st, d, st1, S, r, e, q⟩ => by
    simp only [gN, Option.some.injEq] at e
    subst e
    exact q _ (S.set i r) (Chg.set σ)
theorem gs_nil : PGs X [] (tGvs X.K [] []) := PGs.of pgs_nil fun vs σ H Q ⟨φ, st, ds, st1, S, r, e, q⟩ => by
  cases r with
  | nil =>
    simp only [gTs, Option.some.injEq] at e
    subst e
    exact ⟨rfl, q σ S ⟨rfl, fun _ _ => rfl⟩⟩
  | cons _ _ => simp [gTs] at e
theorem gs_cons {e : Expr} {es : List Expr} {g : Gv} {gs : List Gv} {is js : List Nat} (h1 : SG X e g is) (h2 : PGs X es (tGvs X.K gs js)) (hs : (assignEach (e :: es) X.env).map (·.2) = assign e X.env :: (assignEach es X.env).map (·.2) := by rfl) :
    PGs X (e :: es) (tGvs X.K (g :: gs) (is ++ js)) := PGs.of (pgs_cons h1 h2 hs) fun vs σ H Q ⟨φ, st, ds, st1, S, r, e, q⟩ => by
  cases r with
  | nil => simp [gTs] at e
  | @cons d v ds vs r1 r2 =>
    obtain ⟨st2, e1, e2⟩ := Option.bind_eq_some_iff.mp (show (g d st).bind (gTs gs ds) = some st1 from e)
    exact ⟨v, vs, rfl, φ, st, d, st2, S, r1, e1, fun τ S2 c2 => ⟨φ, st2, ds, st1, S2, r2, e2, fun υ S3 c3 => q υ S3 (c2.trans c3)⟩⟩
theorem gTs_len : ∀ {gs : List Gv} {ds : List D} {st st1 : Sl}, gTs gs ds st = some st1 → ds.length = gs.length
  | [], [], _, _, _ => rfl
  | [], _ :: _, _, _, h => by simp [gTs] at h
  | _ :: _, [], _, _, h => by simp [gTs] at h
  | g :: gs, d :: ds, st, st1, h => by
    obtain ⟨st2, _, e2⟩ := Option.bind_eq_some_iff.mp (show (g d st).bind (gTs gs ds) = some st1 from h)
    simp [gTs_len e2]
theorem g_tup {es : List Expr} {n : Nat} {gs : List Gv} {is : List Nat} (hc : X.calm = true) (h : PGs X es (tGvs X.K gs is)) (hn : (assignEach es X.env).length = gs.length := by rfl) (hst : (assignEach es X.env).findIdx? (·.1) = none := by rfl) :
    SG X (.Tuple es n pos) (gT gs) is := PG.of (pg_tup hc h hn hst) fun v σ H Q ⟨φ, st, d, st1, S, r, e, q⟩ => by
  cases r <;> simp only [gT] at e <;> try (cases e; done)
  rename_i a ds vs hq r _
  exact ⟨a, vs, rfl, hq, by rw [← r.length]; exact gTs_len e, φ, st, ds, st1, S, r, e, q⟩
end

/-! ### what is walked -/
def Drv (K : PySem.W.Frag) (φ1 : List Addr) (H1 : Hp) (J : It) (ds : List D) : Prop := ∀ φ H h, Lat φ1 H1 φ H → HR K φ H h →
  (∀ i d, ds[i]? = some d → J.go i H ∧ ∀ x H', J.yld i H x H' → Lat φ H φ H' ∧ HR K φ H' h ∧ Rep K φ H' d x) ∧ J.stop ds.length H
def tI (K : PySem.W.Frag) (cl : Nat → Addr) (W : WX) (f : Iv) : TI := fun σ H R => ∃ φ st h, SR K φ H st σ ∧ HR K φ H h ∧ match f st h with
  | .ok ds h' => ∀ φ' H' J, Lat φ H φ' H' → HR K φ' H' h' → Drv K φ' H' J ds → R J H'
  | .ex e h' => ∀ φ' H' c d, Lat φ H φ' H' → HR K φ' H' h' → ER K cl φ' H' e c d → W c d σ H'
  | .bad => False
abbrev SI (X : Cx) (cl : Nat → Addr) (W : WX) (tg iter : Expr) (f : Iv) : Prop := PI X tg iter (tI X.K cl W f)
theorem PI.of {X : Cx} {tg e : Expr} {t t' : TI} (h : PI X tg e t) (i : ∀ σ H Q, t' σ H Q → t σ H Q) : PI X tg e t' := ⟨fun pins s σ H R I q => h.run pins s σ H R I (i σ H R q)⟩
section
variable {X : Cx} {cl : Nat → Addr} {W : WX} {tg e a b : Expr} {f : Ev} {fa : Av} {pos : Pos}
theorem seqI {γ δ : Type} {R1 : RT γ δ} {f : Sl → Hm → Rs γ} {k : γ → Hm → Rs (List D)} {σ : L2.St} {H : Hp} {R : It → Hp → Prop} {R' : δ → Hp → Prop} (p : tI X.K cl W (fun σ h => (f σ h).bind fun x h1 => k x h1) σ H R)
    (h : ∀ φ H1 h1 x v ds h2, HR X.K φ H1 h1 → R1 H φ H1 x v → k x h1 = .ok ds h2 → (∀ J, HR X.K φ H1 h2 → Drv X.K φ H1 J ds → R J H1) → R' v H1) (hk : ∀ x h1, (∃ a h2, k x h1 = .ok a h2) ∨ k x h1 = .bad) : tG X.K cl W R1 f σ H R' := by
  obtain ⟨φ, st, h0, S, R0, P⟩ := p
  refine ⟨φ, st, h0, S, R0, ?_⟩
  cases e : f st h0 with
  | bad => simp only [e, Rs.bind] at P
  | ex _ _ => simp only [e, Rs.bind] at P; exact P
  | ok x h1 =>
    simp only [e, Rs.bind] at P
    intro φ1 H1 v l1 r1 q1
    rcases hk x h1 with ⟨ds, h2, e2⟩ | e2
    · rw [e2] at P
      exact h φ1 H1 h1 x v ds h2 r1 q1 e2 fun J r2 dv => P φ1 H1 J l1 r2 dv
    · rw [e2] at P; exact P.elim
theorem drv_tup {K : PySem.W.Frag} {φ : List Addr} {H : Hp} {p : Addr} {ds : List D} {vs : List V} (hq : SqT K H p vs) (r : RepL K φ H ds vs) : Drv K φ H (Itt K p) ds := fun φ' H' h l R => by
  have hq' := SqT.per hq l.per
  have r' := RepL.mono l.pre l.per _ _ r
  refine ⟨fun i d e => ?_, vs, hq', by rw [r'.length]; exact Nat.le_refl _⟩
  obtain ⟨v, h1, h2⟩ := r'.get e
  refine ⟨⟨vs, v, hq', h1⟩, fun x H2 y => ?_⟩
  obtain ⟨rfl, y⟩ := y
  have ev := y vs hq'
  rw [h1] at ev
  cases ev
  exact ⟨Lat.refl _ _, R, h2⟩
theorem drv_lst {K : PySem.W.Frag} {φ : List Addr} {H : Hp} {p : Addr} {ds : List D} {vs : List V} (hq : ∀ H', Per H H' → SqL K H' p vs) (r : RepL K φ H ds vs) : Drv K φ H (Itl K p) ds := fun φ' H' h l R => by
  have hq' := hq H' l.per
  have r' := RepL.mono l.pre l.per _ _ r
  refine ⟨fun i d e => ?_, vs, hq', by rw [r'.length]; exact Nat.le_refl _⟩
  obtain ⟨v, h1, h2⟩ := r'.get e
  refine ⟨⟨vs, v, hq', h1⟩, fun x H2 y => ?_⟩
  obtain ⟨rfl, y⟩ := y
  have ev := y vs hq'
  rw [h1] at ev
  cases ev
  exact ⟨Lat.refl _ _, R, h2⟩
theorem i_tup (ha : SE X cl W e f) : SI X cl W tg e (iT f) := PI.of (pi_tup ha) fun σ H R p =>
  seqI (R1 := RR X.K) (k := fun x h1 => match x with | .tup xs => .ok xs h1 | _ => .bad) p (fun φ H1 h1 x v ds h2 R1 r e q => by
    cases x <;> simp at e
    obtain ⟨rfl, rfl⟩ := e
    cases r with
    | tup hq rr => exact ⟨_, rfl, ⟨_, hq⟩, q _ R1 (drv_tup hq rr)⟩) fun x h1 => by cases x <;> simp
theorem i_lst (ha : SE X cl W e f) : SI X cl W tg e (iF f) := PI.of (pi_list ha) fun σ H R p =>
  seqI (R1 := RR X.K) (k := fun x h1 => match x with | .fl xs => .ok xs h1 | .sq xs => .ok xs h1 | _ => .bad) p (fun φ H1 h1 x v ds h2 R1 r e q => by
    cases x <;> simp at e
    · obtain ⟨rfl, rfl⟩ := e
      cases r with
      | fl hq rr => exact ⟨_, rfl, ⟨_, .inl (.inr ⟨_, hq⟩)⟩, q _ R1 (drv_lst (fun H' p => .inl (.inr ⟨_, p.frz _ _ _ hq⟩)) rr)⟩
    · obtain ⟨rfl, rfl⟩ := e
      cases r with
      | sq hq rr => exact ⟨_, rfl, ⟨_, hq.sq⟩, q _ R1 (drv_lst (fun H' p => (hq.per p).sq) rr)⟩) fun x h1 => by cases x <;> simp
theorem drv_rng {K : PySem.W.Frag} {φ : List Addr} {H : Hp} (lo : Int) (n : Nat) : Drv K φ H (Itr lo n) (rangeD lo n) := fun φ' H' h l R => by
  refine ⟨fun i d e => ?_, by show n ≤ (rangeD lo n).length; simp [rangeD]⟩
  simp only [rangeD, List.getElem?_map] at e
  have hi : i < n := by
    by_cases hi : i < n
    · exact hi
    · rw [List.getElem?_eq_none (by simp; omega)] at e; cases e
  rw [List.getElem?_range hi] at e
  simp at e
  subst e
  refine ⟨hi, fun x H2 y => ?_⟩
  obtain ⟨rfl, rfl⟩ := y
  exact ⟨Lat.refl _ _, R, .int _⟩
theorem small_of {i : Int} (h : small i = true) : -(2 ^ 62) ≤ i ∧ i < 2 ^ 62 := by
  simp only [small, Bool.and_eq_true, decide_eq_true_eq] at h
  omega
theorem i_r1 {p : Pos} (hg : Gl X "range") (hm : X.mg "range" = none) (ha : SA X cl W [a] fa) (hs : starEach [a] X.env = [(false, eval a X.env)] := by rfl) : SI X cl W tg (.Call (.Name "range" p) [a] [] pos) (iR1 fa) := PI.of (pi_range1 hg hm ha hs) fun σ H R p =>
  seqI (R1 := RL X.K) (k := fun xs h1 => match xs with | [.int j] => if small j then .ok (rangeD 0 j.toNat) h1 else .bad | _ => .bad) p (fun φ H1 h1 x v ds h2 R1 r e q => by
    split at e
    · split at e
      · rename_i j hj
        cases e
        obtain ⟨w, rfl, rw'⟩ := RepL.one r
        cases rw'
        exact ⟨j, rfl, (small_of hj).1, (small_of hj).2, q _ R1 (drv_rng 0 _)⟩
      · cases e
    · cases e) fun x h1 => by
      split
      · split <;> simp
      · simp
theorem i_r2 {p : Pos} (hg : Gl X "range") (hm : X.mg "range" = none) (ha : SA X cl W [a, b] fa) (hs : starEach [a, b] X.env = [(false, eval a X.env), (false, eval b X.env)] := by rfl) (hs2 : starEach [b] X.env = [(false, eval b X.env)] := by rfl) :
    SI X cl W tg (.Call (.Name "range" p) [a, b] [] pos) (iR2 fa) := PI.of (pi_range2 hg hm ha hs hs2) fun σ H R p =>
  seqI (R1 := RL X.K) (k := fun xs h1 => match xs with | [.int i, .int j] => if small i && small j then .ok (rangeD i (j - i).toNat) h1 else .bad | _ => .bad) p (fun φ H1 h1 x v ds h2 R1 r e q => by
    split at e
    · split at e
      · rename_i i j hj
        cases e
        rw [Bool.and_eq_true] at hj
        cases r with
        | cons r1 r2 =>
          obtain ⟨w, rfl, rw'⟩ := RepL.one r2
          cases rw'
          cases r1
          exact ⟨i, j, rfl, ⟨(small_of hj.1).1, (small_of hj.1).2, (small_of hj.2).1, (small_of hj.2).2⟩, q _ R1 (drv_rng i _)⟩
      · cases e
    · cases e) fun x h1 => by
      split
      · split <;> simp
      · simp
end

/-! ### for, while -/
section
variable {X : Cx} {cl : Nat → Addr} {W : WX} {tg iter c : Expr} {it : Iv} {g : Gv} {is : List Nat} {b : Sv} {t : Tv} {body : List Stmt} {pos : Pos}
theorem s_for (hp : PassesOwn (model X.prog X.w) X.A X.env X.xe) (hc : X.calm = true) (hi : SI X cl W tg iter it) (hg : SG X tg g is) (hb : SSs X cl W body b) (hs : ∀ x, foldedSetIterable iter X.env x = pure x := by intro _; rfl) :
    SS X cl W (.For tg iter body [] pos) (sFor it g b) := PS.of (ps_for hp hc hi hg hb hs) fun D σ H p => by
  obtain ⟨φ, st, h0, S, R0, P⟩ := p
  refine ⟨φ, st, h0, S, R0, ?_⟩
  unfold sFor at P
  cases e : it st h0 with
  | bad => simp only [e, Rs.out] at P; exact P
  | ex ex1 h1 =>
    simp only [e, Rs.out] at P
    intro φ' H' c d l r er
    exact P φ' H' c d σ l r (S.mono l) er
  | ok ds h1 =>
    simp only [e, Rs.out] at P
    intro φ1 H1 J l1 r1 dv
    refine ⟨fun i m σ2 H2 => m = ds.length - i ∧ i ≤ ds.length ∧ ∃ φ2 st2 h2, Lat φ1 H1 φ2 H2 ∧ SR X.K φ2 H2 st2 σ2 ∧ HR X.K φ2 H2 h2 ∧ PostS X.K cl φ2 H2 (forL g b (ds.drop i) st2 h2) D W,
      ⟨_, rfl, Nat.zero_le _, φ1, st, h1, Lat.refl _ _, S.mono l1, r1, P.lat l1⟩, ?_⟩
    rintro i m σ2 H2 ⟨rfl, hi, φ2, st2, h2, l2, S2, r2, P2⟩
    obtain ⟨d1, d2⟩ := dv φ2 H2 h2 l2 r2
    by_cases lt : i < ds.length
    · obtain ⟨go, yl⟩ := d1 i ds[i] (List.getElem?_eq_getElem lt)
      refine .inr ⟨go, fun σ' H' => ∃ φ3 st3 h3, Lat φ1 H1 φ3 H' ∧ SR X.K φ3 H' st3 σ' ∧ HR X.K φ3 H' h3 ∧ PostS X.K cl φ3 H' (forL g b (ds.drop (i + 1)) st3 h3) D W, fun σ' H' n => ⟨ds.length - (i + 1), by omega, rfl, lt, n⟩, fun x H3 y => ?_⟩
      obtain ⟨l3, r3, rx⟩ := yl x H3 y
      rw [List.drop_eq_getElem_cons lt] at P2
      simp only [forL] at P2
      cases e2 : g ds[i] st2 with
      | none => rw [e2] at P2; exact P2.elim
      | some st3 =>
        rw [e2] at P2
        refine ⟨φ2, st2, ds[i], st3, S2.mono l3, rx, e2, fun τ S3 _ => ⟨φ2, st3, h2, S3, r3, ?_⟩⟩
        have P3 := P2.lat l3
        have L := l2.trans l3
        simp only at P3
        cases e3 : b st3 h2 with
        | nx σ4 h4 =>
          simp only [e3] at P3
          exact fun φ' H' τ' l r s => ⟨φ', σ4, h4, L.trans l, s, r, P3.lat l⟩
        | ct σ4 h4 =>
          simp only [e3] at P3
          exact fun φ' H' τ' l r s => ⟨φ', σ4, h4, L.trans l, s, r, P3.lat l⟩
        | bk σ4 h4 => simp only [e3] at P3; exact P3
        | rt d h4 => simp only [e3] at P3; exact P3
        | rl d h4 => simp only [e3] at P3; exact P3
        | ex d σ4 h4 => simp only [e3] at P3; exact P3
        | bad => simp only [e3] at P3; exact P3
    · have ei : i = ds.length := by omega
      subst ei
      rw [List.drop_length] at P2
      exact .inl ⟨d2, P2 φ2 H2 σ2 (Lat.refl _ _) r2 S2⟩
theorem s_while (hp : PassesOwn (model X.prog X.w) X.A X.env X.xe) (hc : ST X cl W c t) (hb : SSs X cl W body b) : SS X cl W (.While c body [] pos) (sWhile t b) := PS.of (ps_while hp hc hb) fun D σ H p => by
  obtain ⟨φ, st, h0, S, R0, P⟩ := p
  refine ⟨fun m σ2 H2 => ∃ φ2 st2 h2, SR X.K φ2 H2 st2 σ2 ∧ HR X.K φ2 H2 h2 ∧ PostS X.K cl φ2 H2 (whileL t b m st2 h2) D W, ⟨_, φ, st, h0, S, R0, P⟩, ?_⟩
  rintro m σ2 H2 ⟨φ2, st2, h2, S2, r2, P2⟩
  cases m with
  | zero => exact P2.elim
  | succ m =>
    refine ⟨φ2, st2, h2, S2, r2, ?_⟩
    simp only [whileL] at P2
    cases e : t st2 h2 with
    | bad => simp only [e] at P2; exact P2
    | ex ex1 h1 =>
      simp only [e] at P2
      intro φ' H' c d l r er
      exact P2 φ' H' c d σ2 l r (S2.mono l) er
    | ok c3 h3 =>
      simp only [e] at P2
      intro φ3 H3 c4 l3 r3 ec
      cases (show c3 = c4 from ec)
      have P3 := P2.lat l3
      cases c3 with
      | false => exact P3 φ3 H3 σ2 (Lat.refl _ _) r3 (S2.mono l3)
      | true =>
        rw [if_pos rfl]
        rw [if_pos rfl] at P3
        refine ⟨fun σ' H' => ∃ φ2 st2 h2, SR X.K φ2 H' st2 σ' ∧ HR X.K φ2 H' h2 ∧ PostS X.K cl φ2 H' (whileL t b m st2 h2) D W, fun σ' H' n => ⟨m, Nat.lt_succ_self _, n⟩, φ3, st2, h3, S2.mono l3, r3, ?_⟩
        cases e3 : b st2 h3 with
        | nx σ4 h4 =>
          simp only [e3] at P3
          exact fun φ' H' τ' l r s => ⟨φ', σ4, h4, s, r, P3.lat l⟩
        | ct σ4 h4 =>
          simp only [e3] at P3
          exact fun φ' H' τ' l r s => ⟨φ', σ4, h4, s, r, P3.lat l⟩
        | bk σ4 h4 => simp only [e3] at P3; exact P3
        | rt d h4 => simp only [e3] at P3; exact P3
        | rl d h4 => simp only [e3] at P3; exact P3
        | ex d σ4 h4 => simp only [e3] at P3; exact P3
        | bad => simp only [e3] at P3; exact P3
end

/-! ### comprehensions -/
abbrev W0 : WX := fun _ _ _ _ => False
abbrev STs (X : Cx) (cl : Nat → Addr) (W : WX) (es : List Expr) (f : Tv) : Prop := PTs X es (tG X.K cl W RBool f)
section
variable {X : Cx} {cl : Nat → Addr} {W : WX} {elt tg iter c : Expr} {ifs : List Expr} {it : Iv} {g : Gv} {is : List Nat} {t : Tv} {f : Ev} {scope : Scope} {own : List (Str × Nat)} {pos : Pos}
theorem ts_nil : STs X cl W [] tYes := ⟨fun pins s σ H Q I ⟨φ, st, h0, S, R, P⟩ => pts_nil.run pins s σ H Q I (P.val R rfl)⟩
theorem ts_one (h : ST X cl W c t) : STs X cl W [c] t := pts_one h
theorem Lat.tmp {φ0 φ : List Addr} {H0 H : Hp} {D : Addr} {u v : HO} (l : Lat φ0 H0 φ H) (n : H0 D = none) (e : H D = some u) (m : mutO u = true) : Lat φ0 H0 φ (upd H D v) :=
  ⟨l.pre, l.per.trans (Per.wr e m), fun b o q w => by rw [upd_ne (ne_of_none q n)]; exact l.keep b o q w, l.fresh⟩
theorem comp_go (his : ∀ i ∈ is, i ∈ own.map (·.2)) {σ : L2.St} {H : Hp} {Q : VK} (p : tG X.K cl W (Fresh X.K) (lComp it g t f (own.map (·.2))) σ H Q) :
    tLc (tI X.K cl W it) (tGv X.K g is) (tG X.K cl W0 RBool t) (tG X.K cl W0 (RR X.K) f) (own.map (·.2)) σ H Q := by
  obtain ⟨φ, st, h0, S, R0, P⟩ := p
  refine ⟨φ, st, h0, S, R0, ?_⟩
  unfold lComp at P
  cases e : it st h0 with
  | bad => simp only [e, Rs.bind] at P; exact P
  | ex ex1 h1 => simp only [e, Rs.bind] at P; exact P
  | ok ds h1 =>
    simp only [e, Rs.bind] at P
    intro φ1 H1 J l1 r1 dv D hD
    -- what comes out
    cases e1 : compL g t f (unset st (own.map (·.2))) ds h1 with
    | bad => rw [e1] at P; exact P.elim
    | ex ex1 h2 =>
      -- nothing raises within
      exfalso
      have no : ∀ (ds : List Y.D) (h : Hm) ex1 h2, compL g t f (unset st (own.map (·.2))) ds h ≠ .ex ex1 h2 := by
        intro ds
        induction ds with
        | nil => intro h ex1 h2 q; simp [compL] at q
        | cons d ds ih =>
          intro h ex1 h2 q
          simp only [compL] at q
          split at q
          · cases q
          · rename_i σ1 _
            cases a1 : t σ1 h with
            | bad => simp [a1, Rs.bindN] at q
            | ex _ _ => simp [a1, Rs.bindN] at q
            | ok c1 h3 =>
              simp only [a1, Rs.bindN] at q
              split at q
              · cases a2 : f σ1 h3 with
                | bad => simp [a2] at q
                | ex _ _ => simp [a2] at q
                | ok y h4 =>
                  simp only [a2] at q
                  cases a3 : compL g t f (unset st (own.map (·.2))) ds h4 <;> simp [a3] at q
              · exact ih h3 ex1 h2 q
      exact no _ _ _ _ e1
    | ok res hf =>
      rw [e1] at P
      simp only at P
      split at P
      · rename_i hlen
        have nD1 : D ∉ φ1 := r1.notin hD
        have nD0 : H D = none := l1.gone nD1 hD
        refine ⟨fun i m H2 => m = ds.length - i ∧ i ≤ ds.length ∧ ∃ φ2 h2 acc accV ys, Lat φ1 H1 φ2 H2 ∧ HR X.K φ2 H2 h2 ∧ D ∉ φ2 ∧ H2 D = some (.lst accV) ∧ RepL X.K φ2 H2 acc accV ∧ compL g t f (unset st (own.map (·.2))) (ds.drop i) h2 = .ok ys hf ∧ acc ++ ys = res,
          ⟨_, rfl, Nat.zero_le _, φ1, h1, [], [], res, Lat.new hD, r1.new hD, nD1, upd_same, .nil, e1, rfl⟩, ?_⟩
        rintro i m H2 ⟨rfl, hi, φ2, h2, acc, accV, ys, l2, r2, nD2, eD, ra, ec, er⟩
        obtain ⟨d1, d2⟩ := dv φ2 H2 h2 l2 r2
        by_cases lt : i < ds.length
        · obtain ⟨go, yl⟩ := d1 i ds[i] (List.getElem?_eq_getElem lt)
          refine .inr ⟨go, fun H' => ∃ φ2 h2 acc accV ys, Lat φ1 H1 φ2 H' ∧ HR X.K φ2 H' h2 ∧ D ∉ φ2 ∧ H' D = some (.lst accV) ∧ RepL X.K φ2 H' acc accV ∧ compL g t f (unset st (own.map (·.2))) (ds.drop (i + 1)) h2 = .ok ys hf ∧ acc ++ ys = res,
            fun H' n => ⟨ds.length - (i + 1), by omega, rfl, lt, n⟩, fun x H3 y => ?_⟩
          obtain ⟨l3, r3, rx⟩ := yl x H3 y
          rw [List.drop_eq_getElem_cons lt] at ec
          simp only [compL] at ec
          cases e2 : g ds[i] (unset st (own.map (·.2))) with
          | none => rw [e2] at ec; cases ec
          | some st3 =>
            rw [e2] at ec
            have L3 := l2.trans l3
            have S3 : SR X.K φ2 H3 (unset st (own.map (·.2))) (wipe σ (own.map (·.2))) := (S.mono (l1.trans L3)).unset _
            refine ⟨φ2, _, ds[i], st3, S3, rx, e2, fun τ S4 ch => ⟨by rw [ch.wipe his, wipe_wipe], φ2, st3, h2, S4, r3, ?_⟩⟩
            simp only at ec
            cases e3 : t st3 h2 with
            | bad => simp [e3, Rs.bindN] at ec
            | ex _ _ => simp [e3, Rs.bindN] at ec
            | ok c1 h4 =>
              simp only [e3, Rs.bindN] at ec
              intro φ4 H4 c2 l4 r4 ecc
              cases (show c1 = c2 from ecc)
              have L4 := L3.trans l4
              have eD4 : H4 D = some (.lst accV) := (l3.trans l4).keep D _ eD nD2
              have nD4 : D ∉ φ4 := (l3.trans l4).out eD nD2
              have ra4 := RepL.mono (l3.trans l4).pre (l3.trans l4).per _ _ ra
              cases c1 with
              | false =>
                rw [if_neg Bool.false_ne_true]
                rw [if_neg Bool.false_ne_true] at ec
                exact ⟨φ4, h4, acc, accV, ys, L4, r4, nD4, eD4, ra4, ec, er⟩
              | true =>
                rw [if_pos rfl]
                rw [if_pos rfl] at ec
                refine ⟨φ4, st3, h4, S4.mono l4, r4, ?_⟩
                cases e5 : f st3 h4 with
                | bad => simp [e5] at ec
                | ex _ _ => simp [e5] at ec
                | ok y1 h5 =>
                  simp only [e5] at ec
                  intro φ5 H5 yv l5 r5 ry
                  cases e6 : compL g t f (unset st (own.map (·.2))) (ds.drop (i + 1)) h5 with
                  | bad => simp [e6] at ec
                  | ex _ _ => simp [e6] at ec
                  | ok ys1 h6 =>
                    simp only [e6, Rs.ok.injEq] at ec
                    obtain ⟨ec1, ec2⟩ := ec
                    subst ec2
                    subst ec1
                    have eD5 : H5 D = some (.lst accV) := l5.keep D _ eD4 nD4
                    have ra5 := RepL.mono l5.pre l5.per _ _ ra4
                    refine ⟨accV, eD5, ?_, φ5, h5, acc ++ [y1], accV ++ [yv], ys1, Lat.tmp (L4.trans l5) hD eD5 rfl, r5.out (l5.out eD4 nD4) eD5 rfl, l5.out eD4 nD4, upd_same, ?_, e6, by simp [← er]⟩
                    · have := congrArg List.length er
                      simp at this
                      rw [← ra.length, ← line_eq]
                      omega
                    · exact RepL.mono (List.prefix_refl _) (Per.wr eD5 rfl) _ _ (ra5.append (.cons ry .nil))
        · have ei : i = ds.length := by omega
          subst ei
          rw [List.drop_length] at ec
          simp only [compL, Rs.ok.injEq] at ec
          obtain ⟨rfl, rfl⟩ := ec
          rw [List.append_nil] at er
          subst er
          exact .inl ⟨d2, P φ2 H2 _ (l1.trans l2) r2 ⟨D, accV, rfl, nD0, nD2, eD, ra⟩⟩
      · exact P.elim
theorem l_comp {k : Nat} (c0 : Cs k X) (hi : SI X cl W tg iter it) (ok : BlkOk X.N X.env.scope scope own) (his : ∀ i ∈ is, i ∈ own.map (·.2))
    (hg : ∀ (s : Shared) (H : Hp) (C : Addr) (cc : List (Str × Addr)) (fp : List Addr), SG (X.blk s H scope (compEnvC scope cc C X.env) fp) tg g is)
    (ht : ∀ (s : Shared) (H : Hp) (C : Addr) (cc : List (Str × Addr)) (fp : List Addr), STs (X.blk s H scope (compEnvC scope cc C X.env) fp) cl W0 ifs t)
    (he : ∀ (s : Shared) (H : Hp) (C : Addr) (cc : List (Str × Addr)) (fp : List Addr), SE (X.blk s H scope (compEnvC scope cc C X.env) fp) cl W0 elt f) (hs : ∀ x, foldedSetIterable iter X.env x = pure x := by intro _; rfl) :
    SL X cl W (.ListComp elt [⟨tg, iter, ifs, 0⟩] scope pos) (lComp it g t f (own.map (·.2))) := PE.of (pe_lc c0.calm c0.nd hi ok hg ht he hs) fun σ H Q p => comp_go his p
/-- x = [..], frozen -/
theorem s_setComp {k i : Nat} {y : Str} {py spos : Pos} (c0 : Cs k X) (hy : X.N[i]? = some y) (hyl : X.env.scope.names.lookup y = some .local)
    (hsw : swapsWith (.ListComp elt [⟨tg, iter, ifs, 0⟩] scope pos) (some (.Name y py)) spos.line X.env = pure true) (hi : SI X cl W tg iter it) (ok : BlkOk X.N X.env.scope scope own) (his : ∀ i ∈ is, i ∈ own.map (·.2))
    (hg : ∀ (s : Shared) (H : Hp) (C : Addr) (cc : List (Str × Addr)) (fp : List Addr), SG (X.blk s H scope (compEnvC scope cc C X.env) fp) tg g is)
    (ht : ∀ (s : Shared) (H : Hp) (C : Addr) (cc : List (Str × Addr)) (fp : List Addr), STs (X.blk s H scope (compEnvC scope cc C X.env) fp) cl W0 ifs t)
    (he : ∀ (s : Shared) (H : Hp) (C : Addr) (cc : List (Str × Addr)) (fp : List Addr), SE (X.blk s H scope (compEnvC scope cc C X.env) fp) cl W0 elt f) (hs : ∀ x, foldedSetIterable iter X.env x = pure x := by intro _; rfl) :
    SS X cl W (.Assign [.Name y py] (.ListComp elt [⟨tg, iter, ifs, 0⟩] scope pos) spos) (sAsg (gN i) (eFrz (lComp it g t f (own.map (·.2))))) := by
  refine ⟨fun pins s σ H D I p => ?_⟩
  have q := (ps_setLc (g := tGv X.K g is) (tt := tG X.K cl W0 RBool t) (te := tG X.K cl W0 (RR X.K) f) c0.calm c0.nd hy hyl hsw hi ok hg ht he hs).run pins s σ H { D with nx := fun τ H1 => ∃ a vs, τ = σ.set i (some (.ref a)) ∧ H1 a = some (.lst vs) ∧ ∀ o, D.nx τ (upd H1 a (.frz o (.lst vs))) } I (by
    refine comp_go (W := W) (cl := cl) (t := t) (f := f) his ?_
    obtain ⟨φ, st, h0, S, R0, P⟩ := p
    refine ⟨φ, st, h0, S, R0, ?_⟩
    simp only [sAsg, eFrz] at P
    cases e : lComp it g t f (own.map (·.2)) st h0 with
    | bad => simp only [e, Rs.bind, Rs.out] at P; exact P
    | ex ex1 h1 =>
      simp only [e, Rs.bind, Rs.out] at P
      exact fun φ' H' c d l r er => P φ' H' c d σ l r (S.mono l) er
    | ok ds h1 =>
      simp only [e, Rs.bind, gN, Rs.out, outO] at P
      rintro φ' H' v l r ⟨a, vs, rfl, n0, nn, ea, rr⟩
      refine ⟨a, vs, rfl, ea, fun o => ?_⟩
      obtain ⟨l2, x2, y2⟩ := Fresh.frz (o := o) l n0 r nn ea rr
      exact P φ' _ _ l2 x2 ((S.mono l2).set i y2))
  refine thn q fun fl s1 h1 => ?_
  cases fl with
  | next =>
    obtain ⟨σ', H', I', a, vs, rfl, e1, e2⟩ := h1
    obtain ⟨o, I2⟩ := inv_frz I' e1
    exact ⟨_, _, I2, e2 o⟩
  | brk => exact h1
  | cont => exact h1
  | ret u => exact h1
end
end Y
end

section
set_option Elab.async false
set_option linter.all false
set_option maxRecDepth 100000
set_option maxHeartbeats 2000000
/-! YH: statements, displays of dicts, defs and their calls, the law's end. -/
namespace Y
open PySem PySem.Spec PyProof.Rows L2

section
variable {X : Cx} {cl : Nat → Addr} {W : WX} {e a b o i : Expr} {es : List Expr} {f g q : Ev} {fl : Lv} {fa : Av} {t t' : Tv} {pos : Pos} {k : Nat} {u v : Sv} {st : Stmt} {rest body els : List Stmt}
/-- an evaluation within a statement -/
theorem seqO {γ δ : Type} {Rel : RT γ δ} {f : Sl → Hm → Rs γ} {k : Sl → γ → Hm → Out} {σ : L2.St} {H : Hp} {D : Ends} {R : δ → Hp → Prop} (p : tSt X.K cl W (fun σ h => (f σ h).out σ fun d h1 => k σ d h1) D σ H)
    (h : ∀ φ0 st φ H1 h1 x w, Lat φ0 H φ H1 → SR X.K φ H1 st σ → HR X.K φ H1 h1 → Rel H φ H1 x w → (∀ φ' H', Lat φ0 H φ' H' → PostS X.K cl φ' H' (k st x h1) D W) → R w H1) : tG X.K cl W Rel f σ H R := by
  obtain ⟨φ, st, h0, S, R0, P⟩ := p
  refine ⟨φ, st, h0, S, R0, ?_⟩
  cases e : f st h0 with
  | bad => simp only [e, Rs.out] at P; exact P
  | ex ex1 h1 =>
    simp only [e, Rs.out] at P
    exact fun φ' H' c d l r er => P φ' H' c d σ l r (S.mono l) er
  | ok x h1 =>
    simp only [e, Rs.out] at P
    exact fun φ1 H1 w l1 r1 q1 => h φ st φ1 H1 h1 x w l1 (S.mono l1) r1 q1 fun φ' H' l => P.lat l
theorem ss_nil : SSs X cl W [] sPass := PSs.of pss_nil fun D σ H ⟨φ, st, h, S, R, P⟩ => P φ H σ (Lat.refl _ _) R S
theorem ss_cons (h1 : SS X cl W st u) (h2 : SSs X cl W rest v) : SSs X cl W (st :: rest) (sSeq u v) := PSs.of (pss_cons h1 h2) fun D σ H ⟨φ, st, h, S, R, P⟩ => by
  refine ⟨φ, st, h, S, R, ?_⟩
  simp only [sSeq] at P
  cases e : u st h with
  | nx σ1 h1 =>
    simp only [e] at P
    exact fun φ' H' τ l r s => ⟨φ', σ1, h1, s, r, P.lat l⟩
  | bk _ _ => simp only [e] at P; exact P
  | ct _ _ => simp only [e] at P; exact P
  | rt _ _ => simp only [e] at P; exact P
  | rl _ _ => simp only [e] at P; exact P
  | ex _ _ _ => simp only [e] at P; exact P
  | bad => simp only [e] at P; exact P
theorem ss_one (h1 : SS X cl W st u) : SSs X cl W [st] u := pss_one h1
theorem s_pass : SS X cl W (.Pass pos) sPass := PS.of ps_pass fun D σ H ⟨φ, st, h, S, R, P⟩ => P φ H σ (Lat.refl _ _) R S
theorem s_bk : SS X cl W (.Break pos) sBk := PS.of ps_break fun D σ H ⟨φ, st, h, S, R, P⟩ => P φ H σ (Lat.refl _ _) R S
theorem s_ct : SS X cl W (.Continue pos) sCt := PS.of ps_continue fun D σ H ⟨φ, st, h, S, R, P⟩ => P φ H σ (Lat.refl _ _) R S
theorem s_never : SS X cl W st sNever := PS.of ps_never fun D σ H ⟨φ, st, h, S, R, P⟩ => P
theorem s_ifS {c : Expr} (hc : ST X cl W c t) (ha : SSs X cl W body u) (hb : SSs X cl W els v) : SS X cl W (.If c body els pos) (sIf t u v) := PS.of (ps_if hc ha hb) fun D σ H p =>
  seqO (Rel := RBool) (k := fun σ t h1 => if t = true then u σ h1 else v σ h1) p fun φ0 st φ H1 h1 x w l S R r P => by
    cases (show x = w from r)
    cases x with
    | true => exact ⟨φ, st, h1, S, R, P _ _ l⟩
    | false => exact ⟨φ, st, h1, S, R, P _ _ l⟩
theorem s_ret (h : SE X cl W e f) : SS X cl W (.Return (some e) pos) (sRet f) := PS.of (ps_ret h) fun D σ H p =>
  seqO (Rel := RR X.K) (k := fun _ d h1 => Out.rt d h1) p fun φ0 st φ H1 h1 x w l S R r P => P _ _ l φ H1 w (Lat.refl _ _) R r
theorem s_retN : SS X cl W (.Return none pos) sRetN := PS.of ps_retN fun D σ H ⟨φ, st, h, S, R, P⟩ => P φ H _ (Lat.refl _ _) R .non
theorem s_retL (h : SL X cl W e fl) : SS X cl W (.Return (some e) pos) (sRetL fl) := PS.of (ps_ret h) fun D σ H ⟨φ, st, h0, S, R0, P⟩ => by
  refine ⟨φ, st, h0, S, R0, ?_⟩
  simp only [sRetL] at P
  cases e : fl st h0 with
  | bad => simp only [e, Rs.out] at P; exact P
  | ex ex1 h1 =>
    simp only [e, Rs.out] at P
    exact fun φ' H' c d l r er => P φ' H' c d σ l r (S.mono l) er
  | ok x h1 =>
    simp only [e, Rs.out] at P
    exact fun φ1 H1 w l1 r1 q1 => P φ1 H1 w l1 r1 q1
theorem s_expr (h : SE X cl W e f) (hs : swapsWith e none pos.line X.env = pure false := by rfl) : SS X cl W (.Expr e pos) (sExpr f) := PS.of (ps_expr h hs) fun D σ H p =>
  seqO (Rel := RR X.K) (k := fun σ _ h1 => Out.nx σ h1) p fun φ0 st φ H1 h1 x w l S R r P => P _ _ l φ H1 σ (Lat.refl _ _) R S
/-- target = value -/
theorem s_asg {tg : Expr} {gv : Gv} {is : List Nat} (h : SE X cl W e f) (hg : SG X tg gv is) (hs : swapsWithSole [tg] e pos.line X.env = pure false := by rfl) (hw : swappedStores [tg] e X.env = pure none := by rfl) (h1 : (assignEach [tg] X.env).map (·.2) = [assign tg X.env] := by rfl) :
    SS X cl W (.Assign [tg] e pos) (sAsg gv f) := PS.of (ps_asg h hg hs hw h1) fun D σ H p =>
  seqO (Rel := RR X.K) (k := fun σ d h1 => outO (gv d σ) h1) p fun φ0 st φ H1 h1 x w l S R r P => by
    have P := P _ _ l
    cases e : gv x st with
    | none => rw [e] at P; exact P.elim
    | some st1 =>
      rw [e] at P
      exact ⟨φ, st, x, st1, S, r, e, fun τ S' _ => P φ H1 τ (Lat.refl _ _) R S'⟩
theorem s_set {j : Nat} {x : Str} {p' : Pos} (hN : X.N.Nodup) (h : SE X cl W e f) (hi : X.N[j]? = some x := by rfl) (hx : Loc X.env.scope x := by first | exact Or.inl rfl | exact Or.inr rfl) (hs : swapsWith e (some (.Name x p')) pos.line X.env = pure false := by rfl) (hf : X.fn x = true ∨ X.env.scope.names.lookup x = some .local := by first | exact .inl rfl | exact .inr rfl | assumption) :
    SS X cl W (.Assign [.Name x p'] e pos) (sAsg (gN j) f) := PS.of (ps_set hN hi hx h hs hf) fun D σ H p =>
  seqO (Rel := RR X.K) (k := fun σ d h1 => outO (gN j d σ) h1) p fun φ0 st φ H1 h1 x w l S R r P => P _ _ l φ H1 _ (Lat.refl _ _) R (S.set j r)
/-- a, b = x, y, two plain locals -/
theorem s_par {j l : Nat} {x y : Str} {px py pt pt2 : Pos} {n n2 : Nat} (hc : X.calm = true) (hN : X.N.Nodup) (ha : SA X cl W [a, b] fa) (hi : X.N[j]? = some x := by rfl) (hj : X.N[l]? = some y := by rfl) (hij : j ≠ l := by decide)
    (hx : X.env.scope.names.lookup x = some .local := by rfl) (hy : X.env.scope.names.lookup y = some .local := by rfl)
    (hw : swappedStores [.Tuple [.Name x px, .Name y py] n pt] (.Tuple [a, b] n2 pt2) X.env = pure (some [x, y]) := by rfl) (hs : swapsWithSole [.Tuple [.Name x px, .Name y py] n pt] (.Tuple [a, b] n2 pt2) pos.line X.env = pure false := by rfl) :
    SS X cl W (.Assign [.Tuple [.Name x px, .Name y py] n pt] (.Tuple [a, b] n2 pt2) pos) (sPar j l fa) := PS.of (ps_par hc hN hi hj hij hx hy ha hw hs) fun D σ H p =>
  seqO (Rel := RL X.K) (k := fun σ xs h1 => match xs with | [x, y] => .nx ((σ.set j (some x)).set l (some y)) h1 | _ => .bad) p fun φ0 st φ H1 h1 x w l S R r P => by
    have P := P _ _ l
    split at P
    · cases r with
      | cons r1 r2 =>
        obtain ⟨w2, rfl, r3⟩ := r2.one
        exact ⟨_, _, rfl, P φ H1 _ (Lat.refl _ _) R ((S.set _ r1).set _ r3)⟩
    · exact P.elim

/-! ### o[k] = v -/
def rSt : TSet := fun o i v H Q => rSetL o i v H Q ∨ ∃ a H', o = .ref a ∧ DPut H a i v H' ∧ Q H'
theorem set_all (hu : X.A.units + 1 < cLine) : PSet X rSt := fun pins s σ H o i v ov iv u Q I ro ri rv h => by
  rcases h with h | ⟨a, H', rfl, g, q⟩
  · exact set_list pins s σ H o i v ov iv u Q I ro ri rv h
  · cases ro
    exact d_setItem hu I g ri rv fun s' I' => ⟨H', I', q⟩
theorem setD_sound {φ : List Addr} {H : Hp} {h h' : Hm} {x y z : D} {o i v : V} (R : HR X.K φ H h) (rx : Rep X.K φ H x o) (ry : Rep X.K φ H y i) (rz : Rep X.K φ H z v) (e : setD h x y z = some h') {Q : Hp → Prop} (q : ∀ H', Lat φ H φ H' → HR X.K φ H' h' → Q H') : rSt o i v H Q := by
  cases rx <;> simp only [setD] at e <;> try (cases e; done)
  rename_i n a hk
  obtain ⟨ob, h1, h2⟩ := R.at hk
  have mem : a ∈ φ := List.mem_of_getElem? hk
  cases h2 with
  | dct hh rr =>
    rename_i kvs vs
    rw [h1] at e
    simp only at e
    cases ek : keyOf y with
    | none => rw [ek] at e; cases e
    | some ky =>
      rw [ek] at e
      simp only at e
      split at e
      · rename_i hl
        cases e
        obtain rfl := key_of_rep ry ek
        refine .inr ⟨a, _, rfl, .k hh (by rw [← Paired.length rr, ← line_eq]; exact hl), ?_⟩
        refine q _ (Lat.wr hh rfl mem) (R.wr hk (.dct upd_same ?_))
        exact (rr.set ky rz).mono (List.prefix_refl _) (Per.wr hh rfl)
      · cases e
  | lst hh rr =>
    rename_i xs vs
    rw [h1] at e
    simp only at e
    cases ry <;> simp only at e <;> try (cases e; done)
    rename_i j
    obtain ⟨m, e1, rfl⟩ := Option.map_eq_some_iff.mp e
    refine .inl ⟨a, vs, j, m, rfl, rfl, hh, by rw [← rr.length]; exact e1, ?_⟩
    refine q _ (Lat.wr hh rfl mem) (R.wr hk (.lst upd_same ?_))
    exact RepL.mono (List.prefix_refl _) (Per.wr hh rfl) _ _ (rr.set rz m)
theorem s_store {p' : Pos} (c0 : Cs k X) (ho : SE X cl W o f) (hi : SE X cl W i g) (he : SE X cl W e q)
    (ha : ∀ v, assign (.Subscript o i p') X.env v = (do
      let ov ← holding [v] (eval o X.env)
      let iv ← holding [v, ov] (eval i X.env)
      standAt p'
      holding [v, ov, iv] (setItem ov iv v)
      release [v, ov, iv] []) := by intro _; rfl)
    (hs : swapsWithSole [.Subscript o i p'] e pos.line X.env = pure false := by rfl) (hw : swappedStores [.Subscript o i p'] e X.env = pure none := by rfl) (h1 : (assignEach [.Subscript o i p'] X.env).map (·.2) = [assign (.Subscript o i p') X.env] := by rfl) :
    SS X cl W (.Assign [.Subscript o i p'] e pos) (sStore f g q) := PS.of (ps_asg he (pg_sub ho hi (set_all c0.hu) ha) hs hw h1) fun D σ H p =>
  seqO (Rel := RR X.K) (k := fun σ v h1 => (f σ h1).out σ fun o h2 => (g σ h2).out σ fun k h3 => match setD h3 o k v with | some h4 => .nx σ h4 | none => .bad) p fun φ0 st φ H1 h1 x w l S R r P => by
    have P := P _ _ l
    refine ⟨φ, st, h1, S, R, ?_⟩
    cases e1 : f st h1 with
    | bad => simp only [e1, Rs.out] at P; exact P
    | ex ex1 h2 => simp only [e1, Rs.out] at P; exact fun φ' H' c d l r er => P φ' H' c d σ l r (S.mono l) er
    | ok x2 h2 =>
      simp only [e1, Rs.out] at P
      intro φ2 H2 w2 l2 R2 r2
      have P := P.lat l2
      refine ⟨φ2, st, h2, S.mono l2, R2, ?_⟩
      cases e2 : g st h2 with
      | bad => simp only [e2] at P; exact P
      | ex ex1 h3 => simp only [e2] at P; exact fun φ' H' c d l r er => P φ' H' c d σ l r (S.mono (l2.trans l)) er
      | ok x3 h3 =>
        simp only [e2] at P
        intro φ3 H3 w3 l3 R3 r3
        have P := P.lat l3
        cases e3 : setD h3 x2 x3 x with
        | none => simp only [e3] at P; exact P.elim
        | some h4 =>
          simp only [e3] at P
          exact setD_sound R3 (Rep.mono l3.pre l3.per _ _ r2) r3 (Rep.mono (l2.trans l3).pre (l2.trans l3).per _ _ r) e3 fun H' l4 R4 => P φ3 H' σ l4 R4 (S.mono ((l2.trans l3).trans l4))
/-! ### o.append(e) -/
theorem s_app {p1 p2 : Pos} (ho : SE X cl W o f) (he : SE X cl W e g) (hpe : ∀ {to : TE} {t : TA}, PE X o to → PA X [e] t → PE X (.Call (.Attribute o "append" p1) [e] [] p2) (tBM X.K "list" rAppend to t))
    (hs1 : starEach [e] X.env = (false, eval e X.env) :: starEach [] X.env := by rfl) (hs : swapsWith (.Call (.Attribute o "append" p1) [e] [] p2) none pos.line X.env = pure false := by rfl) :
    SS X cl W (.Expr (.Call (.Attribute o "append" p1) [e] [] p2) pos) (sApp f g) := PS.of (ps_expr (hpe ho (pa_cons he pa_nil hs1)) hs) fun D σ H p =>
  seqO (Rel := RR X.K) (k := fun σ o h1 => if isLst h1 o = true then (g σ h1).out σ fun v h2 => match appD h2 o v with | some h3 => .nx σ h3 | none => .bad else .bad) p fun φ0 st φ H1 h1 x w l S R r P => by
    have P := P _ _ l
    split at P
    · rename_i hl
      cases r <;> simp only [isLst] at hl <;> try (cases hl; done)
      rename_i n ad hk _
      obtain ⟨ob, h3, h4⟩ := R.at hk
      refine ⟨?_, φ, st, h1, S, R, ?_⟩
      · rw [h3] at hl
        cases h4 with
        | lst hh _ => exact .inl ⟨rfl, _, .of hh⟩
        | dct hh _ => simp at hl
      · cases e2 : g st h1 with
        | bad => simp only [e2, Rs.out] at P; exact P
        | ex ex1 h3 => simp only [e2, Rs.out] at P; exact fun φ' H' c d l r er => P φ' H' c d σ l r (S.mono l) er
        | ok x3 h5 =>
          simp only [e2, Rs.out] at P
          intro φ3 H3 w3 l3 R3 r3
          have P := P.lat l3
          have hk4 := pre_get l3.pre hk
          obtain ⟨ob2, h6, h7⟩ := R3.at hk4
          simp only [appD, h6] at P
          cases h7 with
          | dct hh _ => exact P.elim
          | lst hh rr =>
            rename_i xs vs
            simp only at P
            by_cases hz : xs.length < line
            · rw [if_pos hz] at P
              have mem : ad ∈ φ3 := List.mem_of_getElem? hk4
              refine ⟨ad, _, w3, rfl, rfl, hh, by rw [← rr.length, ← line_eq]; exact hz, ?_⟩
              refine P φ3 _ σ (Lat.wr hh rfl mem) (R3.wr hk4 (.lst upd_same ?_)) (S.mono (l3.trans (Lat.wr hh rfl mem)))
              exact RepL.mono (List.prefix_refl _) (Per.wr hh rfl) _ _ (rr.append (.cons r3 .nil))
            · rw [if_neg hz] at P
              exact P.elim
    · exact P.elim
end
end Y
end

section
set_option Elab.async false
set_option linter.all false
set_option maxRecDepth 100000
set_option maxHeartbeats 2000000
/-! YI: displays of dicts, defs, their calls, the law's end. -/
namespace Y
open PySem PySem.Spec PyProof.Rows L2

/-! ### {k: v, ..} -/
section
variable {X : Cx} {cl : Nat → Addr} {W : WX} {pos : Pos}
def RP (K : PySem.W.Frag) : RT (List D) (List (V × V)) := fun _ φ H l ps => RepL K φ H l (ps.flatMap fun p => [p.1, p.2])
instance {K : PySem.W.Frag} : Back (RP K) := ⟨fun _ _ h => h⟩
structure SP' (X : Cx) (cl : Nat → Addr) (W : WX) (pos : Pos) (ks : List (Option Expr)) (vs : List Expr) (f : Av) : Prop where
  ex : ∃ trs, PPs X pos ks vs trs ∧ ∀ σ H Q, tG X.K cl W (RP X.K) f σ H Q → tPairs trs σ H Q
theorem p_nil : SP' X cl W pos [] [] pN := ⟨[], pps_nil, fun σ H Q ⟨φ, st, h, S, R, P⟩ => P.val R .nil⟩
theorem p_cons {k v : Expr} {ks : List (Option Expr)} {vs : List Expr} {f g : Ev} {r : Av} (hk : SE X cl W k f) (hv : SE X cl W v g) (hr : SP' X cl W pos ks vs r) : SP' X cl W pos (some k :: ks) (v :: vs) (pC f g r) := by
  obtain ⟨trs, h1, h2⟩ := hr.ex
  refine ⟨_, pps_cons hk hv h1, fun σ H Q p => ?_⟩
  obtain ⟨φ, st, h0, S, R0, P⟩ := p
  refine ⟨φ, st, h0, S, R0, P.seq fun x h1 φ1 H1 v l1 r1 q1 P1 => ⟨φ1, st, h1, S.mono l1, r1, P1.seq fun y h2' φ2 H2 u l2 r2 q2 P2 => h2 _ _ _ ⟨φ2, st, h2', S.mono (l1.trans l2), r2, P2.seq fun xs h3 φ3 H3 ps l3 r3 q3 P3 => ?_⟩⟩⟩
  exact P3.val r3 (show RepL X.K φ3 H3 (x :: y :: xs) (v :: u :: ps.flatMap fun p => [p.1, p.2]) from .cons (Rep.mono (l2.trans l3).pre (l2.trans l3).per _ _ q1) (.cons (Rep.mono l3.pre l3.per _ _ q2) q3))
theorem kvs_sound {K : PySem.W.Frag} {φ : List Addr} {H : Hp} : ∀ {ps : List (V × V)} {l : List D} {kvs : List (Key × D)}, RepL K φ H l (ps.flatMap fun p => [p.1, p.2]) → kvsOf l = some kvs → ∃ kv, ps = kv.map (fun p => (kV p.1, p.2)) ∧ RepK K φ H kvs kv
  | [], l, kvs, r, e => by
    cases r
    simp [kvsOf] at e
    subst e
    exact ⟨[], rfl, .nil⟩
  | (p1, p2) :: ps, l, kvs, r, e => by
    cases r with
    | @cons x _ _ _ r1 r =>
      cases r with
      | @cons y _ ys _ r2 r =>
        simp only [kvsOf] at e
        cases e1 : keyOf x with
        | none => rw [e1] at e; cases e
        | some k =>
          cases e2 : kvsOf ys with
          | none => rw [e1, e2] at e; cases e
          | some l2 =>
            rw [e1, e2] at e
            cases e
            obtain ⟨kv, rfl, rk⟩ := kvs_sound r e2
            have ek := key_of_rep r1 e1
            dsimp only at ek
            subst ek
            exact ⟨(k, p2) :: kv, rfl, .cons ⟨rfl, r2⟩ rk⟩
theorem RepK.merge {K : PySem.W.Frag} {φ : List Addr} {H : Hp} : ∀ {more : List (Key × D)} {mv : List (Key × V)} {a : List (Key × D)} {b : List (Key × V)}, RepK K φ H more mv → RepK K φ H a b → RepK K φ H (mergeD a more) (mergeK b mv) := by
  intro more mv a b r
  induction r generalizing a b with
  | nil => intro q; exact q
  | @cons p q ps qs h t ih =>
    intro z
    show RepK K φ H (mergeD (setK a p.1 p.2) ps) (mergeK (putK b q.1 q.2) qs)
    rw [← h.1]
    exact ih (z.set p.1 h.2)
theorem s_dct {ks : List (Option Expr)} {vs : List Expr} {f : Av} (h : SP' X cl W pos ks vs f) (hall : ks.all (·.isSome) = true) (hl : ks.length = vs.length) (h0 : ks ≠ []) (h15 : ks.length ≤ 15) : SE X cl W (.Dict ks vs pos) (eDct f) := by
  obtain ⟨trs, h1, h2⟩ := h.ex
  refine PE.of (pe_disp h1 hall hl h0 h15) fun σ H Q p => ?_
  intro D hD
  obtain ⟨φ, st, h0, S, R0, P⟩ := p
  have nD : D ∉ φ := R0.notin hD
  have L0 : Lat φ H φ (upd H D (.dK [])) := Lat.new hD
  refine h2 _ _ _ ⟨φ, st, h0, S.mono L0, R0.new hD, ?_⟩
  simp only [eDct] at P
  cases e : f st h0 with
  | bad => simp only [e, Rs.bind] at P; exact P
  | ex ex1 h1 =>
    simp only [e, Rs.bind] at P
    exact fun φ' H' c d l r er => P φ' H' c d (L0.trans l) r er
  | ok l h1 =>
    simp only [e, Rs.bind] at P
    intro φ1 H1 ps l1 R1 r1
    cases ek : kvsOf l with
    | none => rw [ek] at P; exact P.elim
    | some kvs =>
      rw [ek] at P
      simp only at P
      split at P
      · rename_i hz
        obtain ⟨kv, rfl, rk⟩ := kvs_sound r1 ek
        have eD : H1 D = some (.dK []) := l1.keep D _ upd_same nD
        have nD1 : D ∉ φ1 := l1.out upd_same nD
        refine ⟨eD, kv, rfl, by rw [← Paired.length rk]; exact hz, ?_⟩
        have L : Lat φ H φ1 (upd H1 D (.dK (mergeK [] kv))) := Lat.tmp (L0.trans l1) hD eD rfl
        have rk2 : RepK X.K φ1 (upd H1 D (.dK (mergeK [] kv))) (mergeD [] kvs) (mergeK [] kv) := (RepK.merge rk .nil).mono (List.prefix_refl _) (Per.wr eD rfl)
        refine P (φ1 ++ [D]) _ _ ⟨L.pre.trans (List.prefix_append _ _), L.per, L.keep, fun b m => ?_⟩ ((R1.out nD1 eD rfl).add nD1 (.dct upd_same (rk2.mono (List.prefix_append _ _) (Per.refl _)))) (.loc ?_)
        · rcases List.mem_append.mp m with m | m
          · exact L.fresh b m
          · simp at m
            subst m
            exact .inr hD
        · rw [List.getElem?_append_right (by rw [R1.len]; exact Nat.le_refl _)]
          simp [R1.len]
      · exact P.elim
end

/-! ### a def -/
structure FnG (P : Program) (w : World) (K : PySem.W.Frag) (mg : Str → Option Value) (base : Heap) (k : Nat) (f : Addr) (fd : FuncData) (ps : List Str) (sp : Sp) : Prop where
  len : ∀ vs H Q E, sp vs H Q E → vs.length = ps.length
  run : ∀ (A : Around) (outer : List Env) (s : Shared) (H : Hp) (args : Args) (us : List Value) (vs : List V) (Q : VK) (E : XK), Room k A → A.guards = some [] → Env0 P w K mg base A outer s H → BindsTo s fd args (ps.zip us) → Vals vs us → sp vs H Q E →
    codeAny (model P w) A (.call (.ref f) args) (CR (L2.CX P w) outer P w H s Q E) s
theorem FnG.mono {P : Program} {w : World} {K : PySem.W.Frag} {mg : Str → Option Value} {base : Heap} {j k : Nat} {f : Addr} {fd : FuncData} {ps : List Str} {sp : Sp} (F : FnG P w K mg base j f fd ps sp) (h : j ≤ k) : FnG P w K mg base k f fd ps sp :=
  ⟨F.len, fun A outer s H args us vs Q E hr => F.run A outer s H args us vs Q E (hr.mono h)⟩
/-- «does what d does» -/
def spP (K : PySem.W.Frag) (cl : Nat → Addr) (n : Nat) (d : Fn) : Sp := fun vs H Q E => ∃ φ ds h, ds.length = n ∧ RepL K φ H ds vs ∧ HR K φ H h ∧ Post K cl φ H (RR K) (d ds h) Q E
def spL (K : PySem.W.Frag) (cl : Nat → Addr) (n : Nat) (d : FnL) : Sp := fun vs H Q E => ∃ φ ds h, ds.length = n ∧ RepL K φ H ds vs ∧ HR K φ H h ∧ Post K cl φ H (Fresh K) (d ds h) Q E
/-- the context of a def's body -/
abbrev cxY (P : Program) (w : World) (K : PySem.W.Frag) (mg : Str → Option Value) (base : Heap) (N : List Str) (qual : Str) (scope : Scope) (f : Addr) (cd : Value) (A : Around) (outer : List Env) (s : Shared) (H : Hp) (E : XK) : Cx :=
  cxOf (L2.CX P w) P w K mg base N qual scope f cd A outer s H E
section
variable {P : Program} {w : World} {K : PySem.W.Frag} {mg : Str → Option Value} {base : Heap}
theorem binds_all {scope : Scope} {ps : List Str} {us : List Value} (h : ∀ x ∈ ps, scope.names.lookup x = some .local ∨ scope.names.lookup x = some .cell) : ((ps.zip us).all fun y => scope.names.lookup y.1 == some .local || scope.names.lookup y.1 == some .cell) = true := by
  rw [List.all_eq_true]
  rintro ⟨n, v⟩ hy
  rcases h n (List.of_mem_zip hy).1 with e | e <;> simp [e]
theorem gn_of {x qual : Str} {st : Stmt} {f : Addr} {fd : FuncData} {N ps : List Str} {k : Nat} {sp : Sp} (F : Fun K x qual st f fd) (S : FnScope N ps (defScope st)) (len : ∀ vs H Q E, sp vs H Q E → vs.length = ps.length)
    (hb : ∀ (cdv : Value) (A : Around) (outer : List Env) (s : Shared) (H : Hp) (vs : List V) (Q : VK) (E : XK), Cs k (cxY P w K mg base N qual (defScope st) f cdv A outer s H E) → sp vs H Q E →
      ∃ t, PSs (cxY P w K mg base N qual (defScope st) f cdv A outer s H E) (defBody st) t ∧ t { nx := fun _ H' => Q .non H', rt := Q } (start N vs) H) : FnG P w K mg base (k + 1) f fd ps sp := by
  obtain ⟨oc, od, kV, doc, pm, an, cdv, ct, osl, rfl, lk, hcd⟩ := F.ex
  refine ⟨len, fun A outer s H args us vs Q E hr hg e0 hbd r hsp => ?_⟩
  have KX : K.In s.heap := e0.mod.kin.keeps fun b o e => (e0.bs b o e).1
  have lim : s.heap.NoLimit := e0.mod.nolimit.keeps fun b o e => (e0.bs b o e).1
  refine Att.call_fn KX lim lk hcd hr.depth hbd (binds_all S.par) (fun s₁ IC => ?_) S.co S.gen S.kind
  obtain ⟨t, ht, hq⟩ := hb cdv A outer s H vs Q E ⟨hr.deeper _, hg, rfl, S.nd⟩ hsp
  have I := inv_start (CX := L2.CX P w) (E := E) (cd := cdv) (f := f) (qual := qual) S hr.hd e0 (len _ _ _ _ hsp) r IC
  refine wpAny_mono (ht.run [] s₁ (start N vs) H _ I hq) (fun fl s' hs => ?_) fun e s' hs => hs
  have fin : ∀ {σ' : L2.St} {H' : Hp} {v : V} {u : Value}, L2.Inv (cxY P w K mg base N qual (defScope st) f cdv A outer s H E) [] σ' H' s' → RelV v u → Q v H' → CE outer P w H s Q u s' := fun J rv q => ⟨_, _, J.os, J.bare, J.base, J.hok, rv, q⟩
  cases fl with
  | ret u =>
    obtain ⟨v, σ', H', J, rv, q⟩ := hs
    exact fin J rv q
  | next =>
    obtain ⟨σ', H', J, q⟩ := hs
    exact fin (v := V.non) (u := Value.none) J rfl q
  | brk => obtain ⟨_, _, _, q⟩ := hs; exact q.elim
  | cont => obtain ⟨_, _, _, q⟩ := hs; exact q.elim
end

/-! ### what a def made for itself is forgotten -/
section
variable {K : PySem.W.Frag} {φ : List Addr} {H : Hp}
mutual
theorem Rep.low : ∀ (d : D) (v : V), Rep K φ H d v → D.low φ.length d = true
  | .non, _, _ => rfl
  | .bl _, _, _ => rfl
  | .int _, _, _ => rfl
  | .str _, _, _ => rfl
  | .tup ds, _, h => by cases h with | tup h r => simpa [D.low] using RepL.low ds _ r
  | .fl ds, _, h => by cases h with | fl h r => simpa [D.low] using RepL.low ds _ r
  | .sq ds, _, h => by cases h with | sq h r => simpa [D.low] using RepL.low ds _ r
  | .loc k, _, h => by cases h with | loc h => simpa [D.low] using (List.getElem?_eq_some_iff.mp h).1
theorem RepL.low : ∀ (d : List D) (v : List V), RepL K φ H d v → D.lowL φ.length d = true
  | [], _, _ => rfl
  | d :: ds, _, h => by cases h with | cons h r => simp [D.lowL, Rep.low d _ h, RepL.low ds _ r]
end
theorem ObR.low {a : Addr} {o : Ob} (x : ObR K φ H a o) : Ob.low φ.length o = true := by
  cases x with
  | lst h r => exact RepL.low _ _ r
  | dct h r =>
    rename_i kvs vs
    have : ∀ {xs : List (Key × D)} {ys : List (Key × V)}, RepK K φ H xs ys → D.lowL φ.length (xs.map (·.2)) = true := fun r => by
      induction r with
      | nil => rfl
      | cons h _ ih => simp [D.lowL, Rep.low _ _ h.2, ih]
    exact this r
theorem zip_at {α β : Type} : ∀ {l : List α} {m : List β} {i : Nat} {a : α} {b : β}, l[i]? = some a → m[i]? = some b → (a, b) ∈ l.zip m
  | _ :: _, _ :: _, 0, _, _, h, q => by
    simp at h q
    subst h; subst q
    simp
  | _ :: _, _ :: _, i + 1, _, _, h, q => by
    simp at h q
    exact List.mem_cons_of_mem _ (zip_at h q)
  | [], _, _, _, _, h, _ => by simp at h
  | _ :: _, [], _, _, _, _, q => by simp at q
theorem HR.shut {φ' : List Addr} {H' : Hp} {h0 h' : Hm} (R : HR K φ H h0) (l : Lat φ H φ' H') (R' : HR K φ' H' h') (hs : sealed h0.length h0 h' = true) (hl : h0.length ≤ h'.length) : Lat φ H φ H' ∧ HR K φ H' (h'.take h0.length) := by
  have ep : φ'.take h0.length = φ := by
    obtain ⟨t, e⟩ := l.pre
    rw [← e, ← R.len, List.take_left]
  refine ⟨⟨List.prefix_refl _, l.per, l.keep, fun _ m => .inl m⟩, by rw [List.length_take, Nat.min_eq_left hl, R.len], R.nd, fun k a o e1 e2 => ?_⟩
  have lt : k < h0.length := by rw [← R.len]; exact (List.getElem?_eq_some_iff.mp e1).1
  have e2' : h'[k]? = some o := by rw [List.getElem?_take_of_lt lt] at e2; exact e2
  have x := R'.ob k a o (pre_get l.pre e1) e2'
  have low : Ob.low h0.length o = true := by
    have z := List.all_eq_true.mp hs (o, h0[k]) (zip_at e2 (List.getElem?_eq_getElem lt))
    simp only [Bool.or_eq_true, decide_eq_true_eq] at z
    rcases z with z | z
    · have y := (R.ob k a _ e1 (List.getElem?_eq_getElem lt)).low
      rw [R.len] at y
      rw [z]
      exact y
    · exact z
  rw [← ep]
  exact x.cut low
theorem fin_sound {cl : Nat → Addr} {h0 h' : Hm} {d : D} {Q : VK} {We : WE'} (R : HR K φ H h0) (p : Post K cl φ H (RR K) (finP h0 d h') Q We) : ∀ φ' H' v, Lat φ H φ' H' → HR K φ' H' h' → Rep K φ' H' d v → Q v H' := by
  intro φ' H' v l R' r
  unfold finP at p
  split at p
  · exact p φ' H' v l R' r
  · split at p
    · rename_i hc
      simp only [Bool.and_eq_true, decide_eq_true_eq] at hc
      obtain ⟨l2, R2⟩ := R.shut l R' hc.1.2 hc.2
      have ep : φ'.take h0.length = φ := by
        obtain ⟨t, e⟩ := l.pre
        rw [← e, ← R.len, List.take_left]
      refine p φ H' v l2 R2 ?_
      have z := Rep.cut h0.length d v hc.1.1 r
      rw [ep] at z
      exact z
    · exact p.elim
theorem startD_at {n : Nat} {ds : List D} {i : Nat} {d : D} (h : (startD n ds)[i]? = some (some d)) : ds[i]? = some d := by
  unfold startD at h
  by_cases hi : i < ds.length
  · rw [List.getElem?_append_left (by simpa using hi), List.getElem?_map] at h
    cases e : ds[i]? with
    | none => rw [e] at h; cases h
    | some a => rw [e] at h; cases h; rfl
  · rw [List.getElem?_append_right (by simpa using hi), List.getElem?_replicate] at h
    split at h <;> cases h
theorem SR.start {N : List Str} {ds : List D} {vs : List V} (r : RepL K φ H ds vs) : SR K φ H (startD N.length ds) (start N vs) := by
  refine ⟨by simp [startD, L2.start, r.length], fun i d e => ?_⟩
  obtain ⟨v, h1, h2⟩ := r.get (startD_at e)
  refine ⟨v, ?_, h2⟩
  unfold L2.start
  rw [List.getElem?_append_left (by simpa using (List.getElem?_eq_some_iff.mp h1).1), List.getElem?_map, h1]
  rfl
end
section
variable {P : Program} {w : World} {K : PySem.W.Frag} {mg : Str → Option Value} {base : Heap} {cl : Nat → Addr}
/-- the wish of a def's body -/
abbrev wOf (E : XK) : WX := fun c d _ H => E c d H
/-- THE RULE: a def whose body is b's -/
theorem fn_P {x qual : Str} {st : Stmt} {f : Addr} {fd : FuncData} {N ps : List Str} {k : Nat} {b : Sv} (F : Fun K x qual st f fd) (S : FnScope N ps (defScope st))
    (hb : ∀ X : Cx, X.prog = P → X.w = w → X.K = K → X.mg = mg → X.base = base → X.N = N → X.env.scope = defScope st → X.stack = X.env :: X.outer → X.env.frame = some X.env.locals → X.fn = (fun _ => true) → ∀ E : XK, Cs k X → Takes X (wOf E) → PassesOwn (model X.prog X.w) X.A X.env X.xe → SSs X cl (wOf E) (defBody st) b) :
    FnG P w K mg base (k + 1) f fd ps (spP K cl ps.length (fnP N.length b)) := by
  refine gn_of F S (fun vs H Q E ⟨φ, ds, h, e, r, _⟩ => by rw [← r.length, e]) fun cdv A outer s H vs Q E c ⟨φ, ds, h, el, r, R, p⟩ => ?_
  refine ⟨_, hb _ rfl rfl rfl rfl rfl rfl rfl rfl rfl rfl E c (takes_of rfl rfl rfl rfl) (passes_of rfl), φ, startD N.length ds, h, SR.start r, R, ?_⟩
  simp only [fnP] at p
  cases e : b (startD N.length ds) h with
  | rt d h' => simp only [e] at p; exact fin_sound R p
  | nx σ h' => simp only [e] at p; exact fun φ' H' τ l r s => fin_sound R p φ' H' _ l r .non
  | ex e1 σ h' => simp only [e] at p; exact fun φ' H' c d τ l r s er => p φ' H' c d l r er
  | bk _ _ => simp only [e] at p; exact p.elim
  | ct _ _ => simp only [e] at p; exact p.elim
  | rl _ _ => simp only [e] at p; exact p.elim
  | bad => simp only [e] at p; exact p.elim
theorem fn_K {x qual : Str} {st : Stmt} {f : Addr} {fd : FuncData} {N ps : List Str} {k : Nat} {b : Sv} (F : Fun K x qual st f fd) (S : FnScope N ps (defScope st))
    (hb : ∀ X : Cx, X.prog = P → X.w = w → X.K = K → X.mg = mg → X.base = base → X.N = N → X.env.scope = defScope st → X.stack = X.env :: X.outer → X.env.frame = some X.env.locals → X.fn = (fun _ => true) → ∀ E : XK, Cs k X → Takes X (wOf E) → PassesOwn (model X.prog X.w) X.A X.env X.xe → SSs X cl (wOf E) (defBody st) b) :
    FnG P w K mg base (k + 1) f fd ps (spP K cl ps.length (fnK N.length b)) := by
  refine gn_of F S (fun vs H Q E ⟨φ, ds, h, e, r, _⟩ => by rw [← r.length, e]) fun cdv A outer s H vs Q E c ⟨φ, ds, h, el, r, R, p⟩ => ?_
  refine ⟨_, hb _ rfl rfl rfl rfl rfl rfl rfl rfl rfl rfl E c (takes_of rfl rfl rfl rfl) (passes_of rfl), φ, startD N.length ds, h, SR.start r, R, ?_⟩
  simp only [fnK] at p
  cases e : b (startD N.length ds) h with
  | rt d h' => simp only [e] at p; exact p
  | nx σ h' => simp only [e] at p; exact fun φ' H' τ l r s => p φ' H' _ l r .non
  | ex e1 σ h' => simp only [e] at p; exact fun φ' H' c d τ l r s er => p φ' H' c d l r er
  | bk _ _ => simp only [e] at p; exact p.elim
  | ct _ _ => simp only [e] at p; exact p.elim
  | rl _ _ => simp only [e] at p; exact p.elim
  | bad => simp only [e] at p; exact p.elim
theorem fn_L {x qual : Str} {st : Stmt} {f : Addr} {fd : FuncData} {N ps : List Str} {k : Nat} {b : Sv} (F : Fun K x qual st f fd) (S : FnScope N ps (defScope st))
    (hb : ∀ X : Cx, X.prog = P → X.w = w → X.K = K → X.mg = mg → X.base = base → X.N = N → X.env.scope = defScope st → X.stack = X.env :: X.outer → X.env.frame = some X.env.locals → X.fn = (fun _ => true) → ∀ E : XK, Cs k X → Takes X (wOf E) → PassesOwn (model X.prog X.w) X.A X.env X.xe → SSs X cl (wOf E) (defBody st) b) :
    FnG P w K mg base (k + 1) f fd ps (spL K cl ps.length (fnL N.length b)) := by
  refine gn_of F S (fun vs H Q E ⟨φ, ds, h, e, r, _⟩ => by rw [← r.length, e]) fun cdv A outer s H vs Q E c ⟨φ, ds, h, el, r, R, p⟩ => ?_
  refine ⟨_, hb _ rfl rfl rfl rfl rfl rfl rfl rfl rfl rfl E c (takes_of rfl rfl rfl rfl) (passes_of rfl), φ, startD N.length ds, h, SR.start r, R, ?_⟩
  have ept : ∀ {φ'}, φ <+: φ' → φ'.take h.length = φ := fun ⟨t, e⟩ => by rw [← e, ← R.len, List.take_left]
  simp only [fnL] at p
  cases e : b (startD N.length ds) h with
  | rl d h' =>
    simp only [e, finL] at p
    intro φ' H' v l R' q
    split at p
    · exact p φ' H' v l R' q
    · split at p
      · rename_i hc
        simp only [Bool.and_eq_true, decide_eq_true_eq] at hc
        obtain ⟨l2, R2⟩ := R.shut l R' hc.1.2 hc.2
        obtain ⟨a, us, rfl, n0, nn, ea, rr⟩ := q
        refine p φ H' _ l2 R2 ⟨a, us, rfl, n0, pre_notin l.pre nn, ea, ?_⟩
        have z := RepL.cut h.length d us hc.1.1 rr
        rw [ept l.pre] at z
        exact z
      · exact p.elim
  | rt d h' =>
    simp only [e] at p
    intro φ' H' v l R' q
    cases q with
    | @loc kk a hk =>
      simp only [finL] at p
      obtain ⟨ob, h1, h2⟩ := R'.at hk
      cases h2 with
      | dct _ _ => rw [h1] at p; exact p.elim
      | lst hh rr =>
        rw [h1] at p
        simp only at p
        split at p
        · rename_i hc
          simp only [Bool.and_eq_true, decide_eq_true_eq] at hc
          have hl : h.length ≤ h'.length := by
            have := (List.getElem?_eq_some_iff.mp h1).1
            omega
          obtain ⟨l2, R2⟩ := R.shut l R' hc.1.2 hl
          have na : a ∉ φ := fun m => by
            obtain ⟨j, ej⟩ := List.getElem?_of_mem m
            have ej' := pre_get l.pre ej
            obtain ⟨x1, y1⟩ := List.getElem?_eq_some_iff.mp ej'
            obtain ⟨x2, y2⟩ := List.getElem?_eq_some_iff.mp hk
            have : j = kk := (List.getElem_inj R'.nd).mp (y1.trans y2.symm)
            have lt : j < φ.length := (List.getElem?_eq_some_iff.mp ej).1
            rw [R.len] at lt
            omega
          have n0 : H a = none := (l.fresh a (List.mem_of_getElem? hk)).resolve_left na
          refine p φ H' _ l2 R2 ⟨a, _, rfl, n0, na, hh, ?_⟩
          have z := RepL.cut h.length _ _ hc.1.1 rr
          rw [ept l.pre] at z
          exact z
        · exact p.elim
    | _ => exact p.elim
  | nx σ h' => simp only [e, finL] at p; exact p.elim
  | ex e1 σ h' => simp only [e, finL] at p; exact fun φ' H' c d τ l r s er => p φ' H' c d l r er
  | bk _ _ => simp only [e, finL] at p; exact p.elim
  | ct _ _ => simp only [e, finL] at p; exact p.elim
  | bad => simp only [e, finL] at p; exact p.elim
end

/-! ### calls -/
section
variable {X : Cx} {cl : Nat → Addr} {W : WX} {e : Expr} {es : List Expr} {fa : Av} {pos p : Pos} {k j n : Nat} {x : Str} {f : Addr} {fd : FuncData} {ps : List Str} {d : Fn} {dl : FnL}
theorem run_g {sp : Sp} {pins : List (Addr × Obj)} {σ : L2.St} {H : Hp} {s : Shared} {Q : VK} {us : List Value} {vs : List V} (F : FnG X.prog X.w X.K X.mg X.base k f fd ps sp) (c : Cs k X) (tk : Takes X W) (hb : Binds X.K fd ps []) (I : L2.Inv X pins σ H s) (r : Vals vs us)
    (h : sp vs H Q fun c d H' => W c d σ H') : wpAny (model X.prog X.w) X.A (call (.ref f) us) (EP X pins σ Q) X.xe s := by
  have hl : us.length = ps.length := by rw [← r.length]; exact F.len _ _ _ _ h
  have b := hb s us I.kIn (by rw [List.append_nil]; exact hl)
  rw [List.append_nil] at b
  refine wpAny_call (codeAny_mono (F.run X.A X.stack s H ⟨us, []⟩ us vs Q _ c.room c.gd I.env0 b r h) fun q s' hq => ?_)
  cases q with
  | error e => exact passAt tk σ pins H s e s' I hq
  | ok fl =>
    cases fl with
    | ret u => exact I.after hq
    | next => exact hq.elim
    | brk => exact hq.elim
    | cont => exact hq.elim
theorem go_call {sp : Sp} {t : TA} (F : FnG X.prog X.w X.K X.mg X.base k f fd ps sp) (c : Cs k X) (tk : Takes X W) (hg : Gl X x) (hm : X.mg x = some (.ref f)) (hk : PySem.W.keepIn X.K (.ref f) = true) (hb : Binds X.K fd ps []) (ha : PA X (e :: es) t) (hdb : (x == ("__debug__" : Str)) = false := by decide)
    (he : starEach (e :: es) X.env = (false, eval e X.env) :: starEach es X.env := by rfl) (hpl : (backTo pos (starEach es X.env)).any (·.1) = false := by rfl) : PE X (.Call (.Name x p) (e :: es) [] pos) (fun σ H Q => t σ H fun vs H1 => sp vs H1 Q fun c d H' => W c d σ H') := by
  refine ⟨fun pins s σ H Q I h => ?_⟩
  refine wpAny_Call_Name_kw (ld_glob I hg hm ?_ hdb)
  exact PySem.W.callWith_K (h₀ := X.base) I.ok.mod.kin hk (thn (ha.run pos pins s σ H _ I h) fun us s1 ⟨vs, H1, I1, r, q⟩ => ⟨I1.kIn, run_g F c tk hb I1 r q⟩) he hpl
theorem go_call0 {sp : Sp} (F : FnG X.prog X.w X.K X.mg X.base k f fd ps sp) (c : Cs k X) (tk : Takes X W) (hg : Gl X x) (hm : X.mg x = some (.ref f)) (hk : PySem.W.keepIn X.K (.ref f) = true) (hb : Binds X.K fd ps []) (hdb : (x == ("__debug__" : Str)) = false := by decide) :
    PE X (.Call (.Name x p) [] [] pos) (fun σ H Q => sp [] H Q fun c d H' => W c d σ H') := by
  refine ⟨fun pins s σ H Q I h => ?_⟩
  refine wpAny_Call_Name_kw (ld_glob I hg hm ?_ hdb)
  exact PySem.W.callWith_K0 I.kIn hk (run_g (us := []) F c tk hb I .nil h)
theorem s_call (F : FnG X.prog X.w X.K X.mg X.base k f fd ps (spP X.K cl n d)) (c : Cs k X) (tk : Takes X W) (hg : Gl X x) (hm : X.mg x = some (.ref f)) (hk : PySem.W.keepIn X.K (.ref f) = true) (hb : Binds X.K fd ps []) (hn : (e :: es).length = n) (hal : ∀ σ h xs h', fa σ h = .ok xs h' → xs.length = (e :: es).length) (ha : SA X cl W (e :: es) fa) (hdb : (x == ("__debug__" : Str)) = false := by decide)
    (he : starEach (e :: es) X.env = (false, eval e X.env) :: starEach es X.env := by rfl) (hpl : (backTo pos (starEach es X.env)).any (·.1) = false := by rfl) : SE X cl W (.Call (.Name x p) (e :: es) [] pos) (eCall d fa) := PE.of (go_call F c tk hg hm hk hb ha hdb he hpl) fun σ H Q p => by
  obtain ⟨φ, st, h0, S, R0, P⟩ := p
  refine ⟨φ, st, h0, S, R0, ?_⟩
  simp only [eCall] at P
  cases e1 : fa st h0 with
  | bad => simp only [e1, Rs.bind] at P; exact P
  | ex ex1 h1 => simp only [e1, Rs.bind] at P; exact P
  | ok xs h1 =>
    simp only [e1, Rs.bind] at P
    exact fun φ1 H1 vs l1 r1 q1 => ⟨φ1, xs, h1, by rw [hal st h0 xs h1 e1, hn], q1, r1, P.lat l1⟩
theorem l_call (F : FnG X.prog X.w X.K X.mg X.base k f fd ps (spL X.K cl n dl)) (c : Cs k X) (tk : Takes X W) (hg : Gl X x) (hm : X.mg x = some (.ref f)) (hk : PySem.W.keepIn X.K (.ref f) = true) (hb : Binds X.K fd ps []) (hn : (e :: es).length = n) (hal : ∀ σ h xs h', fa σ h = .ok xs h' → xs.length = (e :: es).length) (ha : SA X cl W (e :: es) fa) (hdb : (x == ("__debug__" : Str)) = false := by decide)
    (he : starEach (e :: es) X.env = (false, eval e X.env) :: starEach es X.env := by rfl) (hpl : (backTo pos (starEach es X.env)).any (·.1) = false := by rfl) : SL X cl W (.Call (.Name x p) (e :: es) [] pos) (lCall dl fa) := PE.of (go_call F c tk hg hm hk hb ha hdb he hpl) fun σ H Q p => by
  obtain ⟨φ, st, h0, S, R0, P⟩ := p
  refine ⟨φ, st, h0, S, R0, ?_⟩
  simp only [lCall] at P
  cases e1 : fa st h0 with
  | bad => simp only [e1, Rs.bind] at P; exact P
  | ex ex1 h1 => simp only [e1, Rs.bind] at P; exact P
  | ok xs h1 =>
    simp only [e1, Rs.bind] at P
    exact fun φ1 H1 vs l1 r1 q1 => ⟨φ1, xs, h1, by rw [hal st h0 xs h1 e1, hn], q1, r1, P.lat l1⟩
theorem s_call0 (F : FnG X.prog X.w X.K X.mg X.base k f fd ps (spP X.K cl 0 d)) (c : Cs k X) (tk : Takes X W) (hg : Gl X x) (hm : X.mg x = some (.ref f)) (hk : PySem.W.keepIn X.K (.ref f) = true) (hb : Binds X.K fd ps []) (hdb : (x == ("__debug__" : Str)) = false := by decide) : SE X cl W (.Call (.Name x p) [] [] pos) (eCall d aN) :=
  PE.of (go_call0 F c tk hg hm hk hb hdb) fun σ H Q ⟨φ, st, h0, S, R0, P⟩ => ⟨φ, [], h0, rfl, .nil, R0, P⟩
theorem l_call0 (F : FnG X.prog X.w X.K X.mg X.base k f fd ps (spL X.K cl 0 dl)) (c : Cs k X) (tk : Takes X W) (hg : Gl X x) (hm : X.mg x = some (.ref f)) (hk : PySem.W.keepIn X.K (.ref f) = true) (hb : Binds X.K fd ps []) (hdb : (x == ("__debug__" : Str)) = false := by decide) : SL X cl W (.Call (.Name x p) [] [] pos) (lCall dl aN) :=
  PE.of (go_call0 F c tk hg hm hk hb hdb) fun σ H Q ⟨φ, st, h0, S, R0, P⟩ => ⟨φ, [], h0, rfl, .nil, R0, P⟩
theorem al_nil : ∀ (σ : Sl) (h : Hm) (xs : List D) (h' : Hm), aN σ h = .ok xs h' → xs.length = 0 := fun σ h xs h' e => by simp [aN] at e; simp [← e.1]
theorem al_cons {m : Nat} {f : Ev} {g : Av} (q : ∀ (σ : Sl) (h : Hm) (xs : List D) (h' : Hm), g σ h = .ok xs h' → xs.length = m) : ∀ (σ : Sl) (h : Hm) (xs : List D) (h' : Hm), aC f g σ h = .ok xs h' → xs.length = m + 1 := fun σ h xs h' e => by
  simp only [aC] at e
  cases e1 : f σ h with
  | bad => simp [e1, Rs.bind] at e
  | ex _ _ => simp [e1, Rs.bind] at e
  | ok x h1 =>
    cases e2 : g σ h1 with
    | bad => simp [e1, e2, Rs.bind] at e
    | ex _ _ => simp [e1, e2, Rs.bind] at e
    | ok ys h2 =>
      simp [e1, e2, Rs.bind] at e
      rw [← e.1]
      simp [q _ _ _ _ e2]
end
end Y
end

section
set_option Elab.async false
set_option linter.all false
set_option maxRecDepth 100000
set_option maxHeartbeats 2000000
/-! YJ: repr, min, max, isqrt, gcd, t[::-1]. -/
namespace Y
open PySem PySem.Spec PyProof.Rows L2

mutual
def wid : PyData → Nat
  | .none => 4
  | .bool _ => 5
  | .int i => if i.natAbs < 10 ^ 60 then 61 else 1000000000
  | .str x => (reprText x).length
  | .list xs => widL xs + 3
  | .tuple xs => widL xs + 3
  | .dict _ => 1000000000
def widL : List PyData → Nat
  | [] => 0
  | x :: xs => wid x + 2 + widL xs
end
theorem tupleText_le (ts : List Str) : (tupleText ts).length ≤ piled ts + 3 := by
  unfold tupleText
  rw [strLen_append, strLen_append]
  have e1 : ((("(" : String) : Str)).length = 1 := rfl
  have e3 : (((if ts.length == 1 then ",)" else ")" : String) : Str)).length ≤ 2 := by split <;> decide
  rw [e1]
  by_cases h : ts = []
  · subst h
    have : (Str.join ", " []).length = 0 := rfl
    omega
  · have := join_length_add ts h
    omega
theorem textFrom_le : ∀ (ts : List Str) (k : Nat) (acc : Str), (textFrom k acc ts).length ≤ acc.length + piled ts
  | [], k, acc => by show acc.length ≤ _; omega
  | t :: r, k, acc => by
    have h := textFrom_le r (k + 1) (acc ++ (if k > 0 then ", " else "" : String) ++ t)
    have e : (acc ++ (if k > 0 then ", " else "" : String) ++ t).length ≤ acc.length + 2 + t.length := by
      rw [strLen_append, strLen_append]
      have : (((if k > 0 then ", " else "" : String) : Str)).length ≤ 2 := by split <;> decide
      omega
    rw [piled_cons]
    show (textFrom (k + 1) _ r).length ≤ _
    omega
theorem listText_le (ts : List Str) : (listText ts).length ≤ piled ts + 3 := by
  have h := textFrom_le ts 0 "["
  show (textFrom 0 "[" ts ++ "]").length ≤ _
  rw [strLen_append]
  have e1 : ((("[" : String) : Str)).length = 1 := rfl
  have e2 : ((("]" : String) : Str)).length = 1 := rfl
  omega
theorem lt60 {i : Int} (h : i.natAbs < 10 ^ 60) : i.natAbs.log2 < 1920 := by
  by_cases e : i.natAbs = 0
  · rw [e]; decide
  · have h2 : (10 ^ 60 : Nat) < 2 ^ 1920 := by decide +kernel
    exact (Nat.log2_lt e).mpr (Nat.lt_trans h h2)
mutual
theorem wid_ok : ∀ p : PyData, wid p ≤ line → p.shown.length ≤ wid p ∧ p.showable = true
  | .none, _ => ⟨by decide, by simp [PyData.showable]⟩
  | .bool b, _ => ⟨by cases b <;> decide, by simp [PyData.showable]⟩
  | .int i, h => by
    by_cases hi : i.natAbs < 10 ^ 60
    · rw [wid, if_pos hi] at *
      refine ⟨?_, by simpa [PyData.showable] using lt60 hi⟩
      have h1 := int_text_length_le10 (k := 60) (by decide) hi
      show (Str.ofString (toString i)).length ≤ 61
      rw [PySem.ofString_length]
      exact h1
    · rw [wid, if_neg hi] at h
      exact absurd h (by decide)
  | .str x, h => ⟨by simp only [PyData.shown, wid]; exact Nat.le_refl _, by simp [PyData.showable]⟩
  | .list xs, h => by
    have g := widL_ok xs (by simp only [wid] at h; omega)
    refine ⟨?_, by simpa [PyData.showable] using g.2⟩
    have := listText_le (PyData.shownAll xs)
    simp only [PyData.shown, wid]
    have := g.1
    omega
  | .tuple xs, h => by
    have g := widL_ok xs (by simp only [wid] at h; omega)
    refine ⟨?_, by simpa [PyData.showable] using g.2⟩
    have := tupleText_le (PyData.shownAll xs)
    simp only [PyData.shown, wid]
    have := g.1
    omega
  | .dict _, h => absurd h (by simp only [wid]; decide)
theorem widL_ok : ∀ ps : List PyData, widL ps ≤ line → piled (PyData.shownAll ps) ≤ widL ps ∧ PyData.showableAll ps = true
  | [], _ => ⟨Nat.le_refl _, by simp [PyData.showableAll]⟩
  | p :: ps, h => by
    simp only [widL] at h
    have g1 := wid_ok p (by omega)
    have g2 := widL_ok ps (by omega)
    refine ⟨?_, by simp [PyData.showableAll, g1.2, g2.2]⟩
    simp only [PyData.shownAll, widL, piled_cons]
    have := g1.1
    have := g2.1
    omega
end
/-- repr(x) -/
def bRepr (h : Hm) : List D → Option D
  | [d] => match py h d with
    | some p => if SeqAt.shaped p && decide (wid p ≤ line) then some (.str p.shown) else none
    | none => none
  | _ => none
def minI (ns : List Int) : Option Int := match ns with
  | [] => none
  | n :: r => some (r.foldl min n)
def maxI (ns : List Int) : Option Int := match ns with
  | [] => none
  | n :: r => some (r.foldl max n)
def bMin (h : Hm) : List D → Option D
  | [.tup xs] => ((intsOf xs).bind minI).map .int
  | [d] => ((lstOf h d).bind fun xs => (intsOf xs).bind minI).map .int
  | _ => none
def bMax (h : Hm) : List D → Option D
  | [.tup xs] => ((intsOf xs).bind maxI).map .int
  | [d] => ((lstOf h d).bind fun xs => (intsOf xs).bind maxI).map .int
  | _ => none
def bSqrt (_ : Hm) : List D → Option D
  | [.int a] => if 0 ≤ a ∧ a < big then some (.int (Float64.isqrt a.toNat : Nat)) else none
  | _ => none
def bGcd (_ : Hm) : List D → Option D
  | [.int a, .int b] => some (.int (Nat.gcd a.natAbs b.natAbs : Nat))
  | _ => none
def uRev (_ : Hm) : D → Option D
  | .tup xs => some (.tup xs.reverse)
  | _ => none
def lRev (f : Ev) : Lv := fun σ h => (f σ h).bind fun x h1 => ofO ((lstOf h1 x).map List.reverse) h1

section
variable {X : Cx} {cl : Nat → Addr} {W : WX} {e a b c : Expr} {es : List Expr} {f g q : Ev} {fa : Av} {t t' : Tv} {pos : Pos} {k : Nat}
theorem c_repr (c0 : Cs k X) : CaY X (.builtin "repr") bRepr := caY fun Q φ H h xs vs z R r e q => by
  rcases xs with _ | ⟨d, _ | _⟩ <;> simp only [bRepr] at e <;> try (cases e; done)
  obtain ⟨v, rfl, rd⟩ := r.one
  cases e1 : py h d with
  | none => rw [e1] at e; cases e
  | some p =>
    rw [e1] at e
    dsimp only at e
    split at e
    · rename_i hw
      cases e
      simp only [Bool.and_eq_true, decide_eq_true_eq] at hw
      have hw1 := wid_ok p hw.2
      have dp := Rep.dp d v p e1 rd
      have q' : Q (.str p.shown) H := q φ H _ (Lat.refl _ _) R (.str _)
      refine ⟨fun us H' Q' => us = [v] ∧ H' = H ∧ Q' (.str p.shown) H, ?_, rfl, rfl, q'⟩
      intro pins s σ H1 xs us Q1 I r1 hh
      obtain ⟨rfl, rfl, qq⟩ := hh
      obtain ⟨u, rfl, ru⟩ := vals1 r1
      have hsz : p.shown.length ≤ sizeLine := by rw [← line_eq]; exact Nat.le_trans hw1.1 hw.2
      cases dp with
      | non => cases ru; exact PySem.P.repr_of_none ⟨.str _, H1, I.tok _, ⟨_, rfl⟩, by simpa [PyData.shown] using qq⟩
      | bl b => cases ru; exact PySem.P.repr_of_bool ⟨.str _, H1, I.tok _, ⟨_, rfl⟩, by simpa [PyData.shown] using qq⟩
      | int i =>
        obtain ⟨t, rfl⟩ := ru
        exact PySem.P.repr_of_int (by simpa [PyData.showable] using hw1.2) ⟨.str _, H1, I.tok _, ⟨_, rfl⟩, by simpa [PyData.shown] using qq⟩
      | str x =>
        obtain ⟨t, rfl⟩ := ru
        exact PySem.P.repr_of_str ⟨.str _, H1, I.tok _, ⟨_, rfl⟩, by simpa [PyData.shown] using qq⟩ (by simpa [PyData.shown] using hsz)
      | lst hq ds =>
        obtain ⟨as, rr⟩ := Dp.reads I _ _ _ (.lst hq ds) ru
        cases ru
        have hu := c0.room.un
        have hd := SeqAt.depth_of_shaped hw.1
        exact repr_of_reads' rr hw1.2 (PyData.noDict_hsm (PyData.hasDict_of_canLay _ (SeqAt.canLay_of_shaped hw.1))) c0.gd (by omega) (fun _ _ e => e) (fun h' u tk hk => ⟨.str _, H1, I.kept hk, ⟨_, rfl⟩, qq⟩) hsz
      | tup hq ds =>
        obtain ⟨as, rr⟩ := Dp.reads I _ _ _ (.tup hq ds) ru
        cases ru
        have hu := c0.room.un
        have hd := SeqAt.depth_of_shaped hw.1
        exact repr_of_reads' rr hw1.2 (PyData.noDict_hsm (PyData.hasDict_of_canLay _ (SeqAt.canLay_of_shaped hw.1))) c0.gd (by omega) (fun _ _ e => e) (fun h' u tk hk => ⟨.str _, H1, I.kept hk, ⟨_, rfl⟩, qq⟩) hsz
    · cases e
theorem alike_ints (ns : List Int) : PySem.W.AlikeAll (ns.map PyData.int) := by
  refine ⟨fun x hx y hy => ?_, fun x hx => ?_⟩
  · obtain ⟨i, _, rfl⟩ := List.mem_map.mp hx
    obtain ⟨j, _, rfl⟩ := List.mem_map.mp hy
    rfl
  · obtain ⟨i, _, rfl⟩ := List.mem_map.mp hx
    exact fun h => by cases h
theorem depth_ints : ∀ ns : List Int, PyData.depthAll (ns.map PyData.int) = 0
  | [] => rfl
  | n :: ns => by simp [PyData.depthAll, PyData.depth, depth_ints ns]
theorem reads_ints {h : Heap} : ∀ (ns : List Int) (us : List Value), Vals (ns.map V.int) us → ∃ as, ReadsAll h us (ns.map PyData.int) as
  | [], us, r => by cases r; exact ⟨_, .nil⟩
  | n :: ns, us, r => by
    cases r with
    | cons r1 r2 =>
      obtain ⟨as, hh⟩ := reads_ints ns _ r2
      obtain ⟨t, rfl⟩ := r1
      exact ⟨_, .cons (.int n t) hh⟩
theorem c_min (c0 : Cs k X) : CaY X (.builtin "min") bMin := caY fun Q φ H h xs vs z R r e q => by
  rcases xs with _ | ⟨d, _ | _⟩ <;> try (simp only [bMin] at e <;> cases e; done)
  obtain ⟨v, rfl, rd⟩ := r.one
  have fin : ∀ (a : Addr) (ds : List D) (vs : List V), v = .ref a → SqL X.K H a vs ∨ SqT X.K H a vs → RepL X.K φ H ds vs → ((intsOf ds).bind minI).map D.int = some z → ∃ r, CallR X (.builtin "min") r ∧ r [v] H Q := by
    intro a ds vs ev hq rr ez
    subst ev
    obtain ⟨m, e1, rfl⟩ := Option.map_eq_some_iff.mp ez
    obtain ⟨ns, e2, e3⟩ := Option.bind_eq_some_iff.mp e1
    have e4 := rr.intsOf e2
    subst e4
    cases ns with
    | nil => cases e3
    | cons n ns =>
      cases e3
      have q' : Q (.int (ns.foldl min n)) H := q φ H _ (Lat.refl _ _) R (.int _)
      refine ⟨fun us H' Q' => us = [.ref a] ∧ H' = H ∧ Q' (.int (ns.foldl min n)) H, ?_, rfl, rfl, q'⟩
      intro pins s σ H1 xs us Q1 I r1 hh
      obtain ⟨rfl, rfl, qq⟩ := hh
      rw [Vals.ref1 r1]
      have hu := c0.room.un
      have hd := depth_ints (n :: ns)
      have ha := alike_ints (n :: ns)
      simp only [List.map_cons] at ha hd
      have goal : ∀ (i : Nat) v h' tk bs, Reads h' v (PySem.W.minD (.int n) (ns.map .int)) bs → (∀ b o, s.heap.get? b = some o → h'.get? b = some o) → EP X pins σ Q1 v { s with heap := h', toks := tk } := by
        intro i v h' tk bs rr hk
        rw [PySem.W.minD_ints] at rr
        cases rr
        exact ⟨.int _, H1, I.kept hk, ⟨_, rfl⟩, qq⟩
      rcases hq with hq | hq
      · obtain ⟨its, rv, hl, hz⟩ := I.list hq
        obtain ⟨as, hr⟩ := reads_ints (h := s.heap) (n :: ns) its rv
        exact PySem.W.min_list_data c0.room.hd hl.isList (by simpa using hr) ha (by rw [hd]; omega) fun i v h' tk bs _ h2 h3 => goal i v h' tk bs h2 h3
      · obtain ⟨its, rv, hl, hz⟩ := I.tuple hq
        obtain ⟨as, hr⟩ := reads_ints (h := s.heap) (n :: ns) its rv
        exact PySem.W.min_tuple_data c0.room.hd hl (by simpa using hr) ha (by rw [hd]; omega) fun i v h' tk bs _ h2 h3 => goal i v h' tk bs h2 h3
  have lsts : ((lstOf h d).bind fun xs => (intsOf xs).bind minI).map D.int = some z → ∃ r, CallR X (.builtin "min") r ∧ r [v] H Q := fun e => by
    obtain ⟨m, e1, e2⟩ := Option.map_eq_some_iff.mp e
    obtain ⟨ys, e3, e4⟩ := Option.bind_eq_some_iff.mp e1
    obtain ⟨a, us, rfl, hq, rr⟩ := lst_at R rd e3
    exact fin a ys us rfl (.inl hq) rr (by rw [e4]; exact congrArg some e2)
  cases d
  case tup xs =>
    cases rd with
    | tup hq rr => exact fin _ _ _ rfl (.inr hq) rr e
  all_goals exact lsts e
theorem c_max (c0 : Cs k X) : CaY X (.builtin "max") bMax := caY fun Q φ H h xs vs z R r e q => by
  rcases xs with _ | ⟨d, _ | _⟩ <;> try (simp only [bMax] at e <;> cases e; done)
  obtain ⟨v, rfl, rd⟩ := r.one
  have fin : ∀ (a : Addr) (ds : List D) (vs : List V), v = .ref a → SqL X.K H a vs ∨ SqT X.K H a vs → RepL X.K φ H ds vs → ((intsOf ds).bind maxI).map D.int = some z → ∃ r, CallR X (.builtin "max") r ∧ r [v] H Q := by
    intro a ds vs ev hq rr ez
    subst ev
    obtain ⟨m, e1, rfl⟩ := Option.map_eq_some_iff.mp ez
    obtain ⟨ns, e2, e3⟩ := Option.bind_eq_some_iff.mp e1
    have e4 := rr.intsOf e2
    subst e4
    cases ns with
    | nil => cases e3
    | cons n ns =>
      cases e3
      have q' : Q (.int (ns.foldl max n)) H := q φ H _ (Lat.refl _ _) R (.int _)
      refine ⟨fun us H' Q' => us = [.ref a] ∧ H' = H ∧ Q' (.int (ns.foldl max n)) H, ?_, rfl, rfl, q'⟩
      intro pins s σ H1 xs us Q1 I r1 hh
      obtain ⟨rfl, rfl, qq⟩ := hh
      rw [Vals.ref1 r1]
      have hu := c0.room.un
      have hd := depth_ints (n :: ns)
      have ha := alike_ints (n :: ns)
      simp only [List.map_cons] at ha hd
      have goal : ∀ (i : Nat) v h' tk bs, Reads h' v (PySem.W.maxD (.int n) (ns.map .int)) bs → (∀ b o, s.heap.get? b = some o → h'.get? b = some o) → EP X pins σ Q1 v { s with heap := h', toks := tk } := by
        intro i v h' tk bs rr hk
        rw [PySem.W.maxD_ints] at rr
        cases rr
        exact ⟨.int _, H1, I.kept hk, ⟨_, rfl⟩, qq⟩
      rcases hq with hq | hq
      · obtain ⟨its, rv, hl, hz⟩ := I.list hq
        obtain ⟨as, hr⟩ := reads_ints (h := s.heap) (n :: ns) its rv
        exact PySem.W.max_list_data c0.room.hd hl.isList (by simpa using hr) ha (by rw [hd]; omega) fun i v h' tk bs _ h2 h3 => goal i v h' tk bs h2 h3
      · obtain ⟨its, rv, hl, hz⟩ := I.tuple hq
        obtain ⟨as, hr⟩ := reads_ints (h := s.heap) (n :: ns) its rv
        exact PySem.W.max_tuple_data c0.room.hd hl (by simpa using hr) ha (by rw [hd]; omega) fun i v h' tk bs _ h2 h3 => goal i v h' tk bs h2 h3
  have lsts : ((lstOf h d).bind fun xs => (intsOf xs).bind maxI).map D.int = some z → ∃ r, CallR X (.builtin "max") r ∧ r [v] H Q := fun e => by
    obtain ⟨m, e1, e2⟩ := Option.map_eq_some_iff.mp e
    obtain ⟨ys, e3, e4⟩ := Option.bind_eq_some_iff.mp e1
    obtain ⟨a, us, rfl, hq, rr⟩ := lst_at R rd e3
    exact fin a ys us rfl (.inl hq) rr (by rw [e4]; exact congrArg some e2)
  cases d
  case tup xs =>
    cases rd with
    | tup hq rr => exact fin _ _ _ rfl (.inr hq) rr e
  all_goals exact lsts e
theorem c_sqrt : CaY X (.builtin "math.isqrt") bSqrt := caY fun Q φ H h xs vs z R r e q => by
  rcases xs with _ | ⟨d, _ | _⟩ <;> try (simp only [bSqrt] at e <;> cases e; done)
  obtain ⟨v, rfl, rd⟩ := r.one
  cases rd <;> simp only [bSqrt] at e <;> try (cases e; done)
  rename_i a
  split at e
  · rename_i hz
    cases e
    have q' : Q (.int (Float64.isqrt a.toNat : Nat)) H := q φ H _ (Lat.refl _ _) R (.int _)
    refine ⟨fun us H' Q' => us = [.int a] ∧ H' = H ∧ Q' (.int (Float64.isqrt a.toNat : Nat)) H, ?_, rfl, rfl, q'⟩
    intro pins s σ H1 xs us Q1 I r1 hh
    obtain ⟨rfl, rfl, qq⟩ := hh
    obtain ⟨u, rfl, t, rfl⟩ := vals1 r1
    exact PySem.W.mg_isqrt hz.1 hz.2 ⟨.int _, H1, I.tok _, ⟨_, rfl⟩, qq⟩
  · cases e
theorem c_gcd : CaY X (.builtin "math.gcd") bGcd := caY fun Q φ H h xs vs z R r e q => by
  have key : ∃ a b, xs = [.int a, .int b] ∧ z = .int (Nat.gcd a.natAbs b.natAbs : Nat) := by
    unfold bGcd at e
    split at e
    · cases e; exact ⟨_, _, rfl, rfl⟩
    · cases e
  obtain ⟨a, b, rfl, rfl⟩ := key
  cases r with
  | cons r1 r2 =>
    cases r2 with
    | cons r3 r4 =>
      cases r4
      cases r1
      cases r3
      exact ⟨_, cr_gcd, _, _, rfl, q φ H _ (Lat.refl _ _) R (.int _)⟩
/-- f(e, ..), f a module's name for a built-in function -/
theorem s_bM {x : Str} {id : String} {p : Pos} {o : Hm → List D → Option D} (hc : CaY X (.builtin id) o) (hg : Gl X x) (hm : X.mg x = some (.builtin id)) (ha : SA X cl W (e :: es) fa) (hdb : (x == ("__debug__" : Str)) = false := by decide)
    (he : starEach (e :: es) X.env = (false, eval e X.env) :: starEach es X.env := by rfl) (hpl : (backTo pos (starEach es X.env)).any (·.1) = false := by rfl) : SE X cl W (.Call (.Name x p) (e :: es) [] pos) (eB o fa) := PE.of (pe_callBfun hc hg hm ha hdb he hpl) fun σ H Q p =>
  seq1 (k := fun xs h1 => ofO (o h1 xs) h1) p fun φ H1 h1 xs vs R r P => ⟨cl, fun c d H' => W c d σ H', φ, h1, xs, R, r, P⟩
/-! ### t[::-1] -/
theorem fm_congr {α β : Type} {f g : α → Option β} : ∀ (l : List α), (∀ x ∈ l, f x = g x) → l.filterMap f = l.filterMap g
  | [], _ => rfl
  | x :: l, h => by
    have h1 := h x List.mem_cons_self
    have h2 := fm_congr l fun y hy => h y (List.mem_cons_of_mem _ hy)
    simp only [List.filterMap_cons, h1, h2]
theorem pick_rev (xs : Array Value) : ((List.range xs.size).filterMap fun (m : Nat) => xs[((xs.size : Int) - 1 + (m : Int) * (-1)).toNat]?).toArray = xs.toList.reverse.toArray := by
  rw [← PySem.W.krv_pick]
  unfold slicePick
  rw [PySem.W.krv_bounds]
  show _ = ((sliceRange ((xs.size : Int) - 1) (-1) (-1)).filterMap (xs[·]?)).toArray
  rw [PySem.W.krv_sliceRange, List.filterMap_map]
  congr 1
  refine fm_congr _ fun m hm => ?_
  have hm := List.mem_range.mp hm
  have e : ((xs.size : Int) - 1 + (m : Int) * (-1)).toNat = xs.size - 1 - m := by omega
  rw [e]
  rfl
end
section
variable {prog : Program} {w : World} {A : Around} {E : Value → Shared → Prop} {s : Shared}
theorem placesR (n : Nat) : Builtin.Slice.slicePlaces ((n : Int) - 1) (-1) (-1) = n := by
  unfold Builtin.Slice.slicePlaces
  rw [if_neg (by decide)]
  by_cases h : (n : Int) - 1 > -1
  · rw [if_pos h]
    have : ((n : Int) - 1 - -1 - 1) / (- -1) + 1 = n := by
      rw [show (- -1 : Int) = 1 by decide, Int.ediv_one]; omega
    rw [this]; rfl
  · rw [if_neg h]
    have : n = 0 := by omega
    subst this; rfl
theorem appliedR {sl : Addr} {vs : Value} {n : Nat} {Q : Int × Int × Nat → Shared → Prop} (hs : s.heap.IsSliceOf sl .none .none vs) (ps : IsPart vs (some (-1))) (h : Q ((n : Int) - 1, -1, n) s) :
    wpAny (model prog w) A (Builtin.Slice.sliceApplied (.ref sl) (pure (n : Int))) Q E s := by
  obtain ⟨o, ho, _, hd⟩ := id hs
  unfold Builtin.Slice.sliceApplied Builtin.Slice.sliceFields
  refine wpAny_bind (wpAny_bind (wpAny_field ho hd (x := .none) rfl (wpAny_bind (wpAny_field ho hd (x := .none) rfl (wpAny_bind (wpAny_field ho hd (x := vs) rfl (wpAny_pure ?_)))))))
  refine wpAny_bind (HT.slicePart_ ps ?_)
  show wpAny _ _ (if ((-1 : Int) == 0) = true then _ else _) _ _ s
  rw [if_neg (by decide)]
  refine wpAny_bind (slicePart_none (wpAny_bind (slicePart_none (wpAny_bind (wpAny_pure ?_)))))
  show wpAny _ _ (pure ((n : Int) - 1, (-1 : Int), Builtin.Slice.slicePlaces ((n : Int) - 1) (-1) (-1))) _ _ s
  rw [placesR]
  exact wpAny_pure h
theorem get_tup_rev {t sl : Addr} {items : Array Value} {vs : Value} {Q : Value → Shared → Prop} (ht : IsTup s.heap t items) (hs : s.heap.IsSliceOf sl .none .none vs) (ps : IsPart vs (some (-1)))
    (h : Q (.ref s.heap.objs.size) { s with heap := s.heap.push { cls := .type "tuple", data := .seq items.toList.reverse.toArray } }) (hsz : items.size ≤ sizeLine) : wpAny (model prog w) A (getItem (.ref t) (.ref sl)) Q E s := by
  obtain ⟨o, ho, hc, hd⟩ := id hs
  have T : s.TypeIs (.ref sl) "slice" := ⟨o, ho, hc⟩
  unfold getItem
  with_reducible refine wpAny_holding ?_
  first | refine wpAny_bind (wpAny_pure ?_) | skip
  refine wpAny_bind (wpAny_sequenceKey ht.typeIs (by decide) (wpAny_bind (wpAny_callSpecial?_slot (name := Str.ofString "__getitem__") ht.typeIs PyProof.Rows.slot_tuple_getitem (wpAny_call_entry PyProof.Rows.slot_tuple_getitem ht.typeIs PyProof.Rows.entry_tuple_getitem ?_ (PyProof.Rows.args_tuple_getitem _ _)))))
  show wpAny _ _ (Builtin.Tuple.tupleItemsOf (.ref t) >>= _) _ _ s
  refine wpAny_bind (tupleItemsOf_ ht (wpAny_bind (wpAny_typeOf T ?_)))
  rw [if_pos (by decide)]
  refine wpAny_bind (appliedR hs ps ?_)
  have no : ¬ ((((items.size : Int) - 1 == 0) && (-1 : Int) == 1 && items.size == items.size) = true) := by
    intro q
    rw [Bool.and_eq_true, Bool.and_eq_true] at q
    exact absurd q.1.2 (by decide)
  show wpAny _ _ (if ((((items.size : Int) - 1 == 0) && (-1 : Int) == 1 && items.size == items.size) = true) then _ else _) _ _ s
  rw [if_neg no, pick_rev]
  have sz : sizeOk (.seq items.toList.reverse.toArray) := by
    show items.toList.reverse.toArray.size ≤ sizeLine
    simpa using hsz
  first
    | exact wpAny_bind (m := Builtin.Tuple.tupleExact _) (wpAny_newObj_type (wpAny_pure ⟨_, rfl, wpAny_pure h⟩) sz)
    | exact wpAny_bind (m := Builtin.Tuple.tupleExact _) (wpAny_newObj_type (wpAny_bind (wpAny_pure (wpAny_pure ⟨_, rfl, wpAny_pure h⟩))) sz)
    | exact wpAny_bind (wpAny_bind (m := Builtin.Tuple.tupleExact _) (wpAny_newObj_type (wpAny_pure (wpAny_pure ⟨_, rfl, wpAny_pure h⟩)) sz))
    | exact wpAny_bind (wpAny_bind (m := Builtin.Tuple.tupleExact _) (wpAny_newObj_type (wpAny_pure ⟨_, rfl, wpAny_pure h⟩) sz))
end
section
variable {X : Cx} {cl : Nat → Addr} {W : WX} {e a b c : Expr} {es : List Expr} {f g q : Ev} {fa : Av} {t t' : Tv} {pos : Pos} {k : Nat}
theorem RepL.rev {K : PySem.W.Frag} {φ : List Addr} {H : Hp} : ∀ {ds : List D} {vs : List V}, RepL K φ H ds vs → RepL K φ H ds.reverse vs.reverse
  | [], _, r => by cases r; exact .nil
  | d :: ds, _, r => by
    cases r with
    | cons h r => simpa using (RepL.rev r).append (.cons h .nil)
def tRevT (K : PySem.W.Frag) (te : TE) : TE := fun σ H Q => te σ H fun x H1 => ∃ a xs, x = .ref a ∧ SqT K H1 a xs ∧ ∀ p, H1 p = none → Q (.ref p) (upd H1 p (.tup xs.reverse))
theorem pe_revT {te : TE} {kk : Nat} {p1 p2 p3 : Pos} (he : PE X e te) : PE X (.Subscript e (.Slice none none (some (.UnaryOp .USub (.Constant (.int 1) kk p1) p2)) p3) pos) (tRevT X.K te) := by
  refine ⟨fun pins s σ H Q I h => ?_⟩
  refine Subscript_ (thn (he.run pins s σ H _ I h) fun v s1 ⟨x, H1, I1, r1, a, xs, ex, hx, q⟩ => ?_)
  subst ex
  cases r1
  have st : PO X (some (.UnaryOp .USub (.Constant (.int 1) kk p1) p2)) (tPart (tUn (rU fun i => .int (-i)) (L2.tC (.int 1)))) := po_some (pe_un un_neg pe_int)
  refine wpAny_Slice (thn (po_none.run pins s1 σ H1 (fun o H2 => o = none ∧ H2 = H1) I1 ⟨rfl, rfl⟩) fun vl s2 ⟨l, H2, I2, pl, el, e2⟩ => ?_)
  subst el e2
  cases pl
  refine thn (po_none.run pins s2 σ H2 (fun o H3 => o = none ∧ H3 = H2) I2 ⟨rfl, rfl⟩) fun vu s3 ⟨u, H3, I3, pu, eu, e3⟩ => ?_
  subst eu e3
  cases pu
  refine thn (st.run pins s3 σ H3 (fun o H4 => o = some (-1) ∧ H4 = H3) I3 ⟨1, rfl, -1, rfl, rfl, rfl⟩) fun vs s4 ⟨o, H4, I4, ps, eo, e4⟩ => ?_
  subst eo e4
  have I5 : Inv X pins σ H4 { s4 with heap := s4.heap.push { cls := .type "slice", data := .fields #[.none, .none, vs] } } := I4.kept (t' := s4.toks) fun b ob q => Heap.get?_push_of_some _ q
  obtain ⟨its, r, ht, hz⟩ := I5.tuple hx
  have hlen := r.length
  show wpAny (model X.prog X.w) X.A (subscriptTail e (.Slice none none (some (.UnaryOp .USub (.Constant (.int 1) kk p1) p2)) p3) (.ref a) (.ref s4.heap.objs.size)) (EP X pins σ Q) X.xe { s4 with heap := s4.heap.push { cls := .type "slice", data := .fields #[.none, .none, vs] } }
  refine tail_any (ops := [.ref a, .ref s4.heap.objs.size]) ht.typeIs (PyProof.Rows.slot_tuple_getitem.lookup) ?_ (by with_unfolding_all rfl)
  refine get_tup_rev ht (Heap.IsSliceOf.new _ .none .none vs) ps ?_ (by rw [List.size_toArray]; omega)
  refine ⟨.ref _, _, I5.laid (t' := s4.toks) (o := .tup xs.reverse) (fun b ob q => Heap.get?_push_of_some _ q) (Nat.le_refl _) ?_, rfl, q _ (I5.hok.fresh (Nat.le_refl _))⟩
  exact ⟨by rw [List.length_reverse]; exact hz, _, r.reverse, IsTup.new _ _⟩
theorem s_revT {kk : Nat} {p1 p2 p3 : Pos} (ha : SE X cl W a f) : SE X cl W (.Subscript a (.Slice none none (some (.UnaryOp .USub (.Constant (.int 1) kk p1) p2)) p3) pos) (e1 uRev f) := PE.of (pe_revT ha) fun σ H Q p => by
  refine seq1 (k := fun x h1 => ofO (uRev h1 x) h1) p fun φ H1 h1 x v R rx P => ?_
  cases rx <;> simp only [uRev, ofO] at P <;> try (exact P.elim)
  rename_i hq rr
  exact ⟨_, _, rfl, hq, fun p hp => P φ _ _ (Lat.new hp) (R.new hp) (.tup (.of upd_same) (RepL.mono (List.prefix_refl _) (Per.new hp) _ _ (RepL.rev rr)))⟩
end
end Y
end

section
set_option Elab.async false
set_option linter.all false
set_option maxRecDepth 100000
set_option maxHeartbeats 2000000
/-! YK: the law's end. -/
namespace Y
open PySem PySem.Spec PyProof.Rows L2

/-- the script alone is tracked, or nothing -/
def scrH (t : Bool) (a : Addr) (vs : List Value) (ns : List Int) : Hp := fun b => if t = true ∧ b = a then some (.frz { cls := .type "list", data := .seq vs.toArray } (.lst (ns.map V.int))) else none
theorem scr_some {t : Bool} {a b : Addr} {vs : List Value} {ns : List Int} {u : HO} (e : scrH t a vs ns b = some u) : t = true ∧ b = a ∧ u = .frz { cls := .type "list", data := .seq vs.toArray } (.lst (ns.map V.int)) := by
  unfold scrH at e
  split at e
  · rename_i h; cases e; exact ⟨h.1, h.2, rfl⟩
  · cases e
theorem scr_at {a : Addr} {vs : List Value} {ns : List Int} : scrH true a vs ns a = some (.frz { cls := .type "list", data := .seq vs.toArray } (.lst (ns.map V.int))) := by simp [scrH]
section
variable {P : Program} {w : World} {K : PySem.W.Frag} {mg mb : Str → Option Value} {k : Nat} {fa a : Addr} {fd : FuncData} {x : Str} {s₁ : Shared} {vs : List Value} {ns : List Int} {d : Fn} {cl : Nat → Addr}
/-- what the law's def must do: True, whatever the script -/
def LawTrue (d : Fn) (ns : List Int) : Prop := ∃ h, d [.sq (ns.map .int)] [] = .ok (.bl true) h
theorem rep_ints (φ : List Addr) (H : Hp) : ∀ ns : List Int, RepL K φ H (ns.map D.int) (ns.map V.int)
  | [] => .nil
  | n :: ns => .cons (.int n) (rep_ints φ H ns)
theorem law_run (KX : K.In s₁.heap) (gm : s₁.heap.Ns mainGlobals mg) (gb : s₁.heap.Ns builtinsNs mb) (bb : ∀ x : Str, x ≠ "__name__" → mb x = bootBuiltins x) (nl : s₁.heap.NoLimit) (g0 : s₁.gens = #[])
    (ea : s₁.heap.get? a = some { cls := .type "list", data := .seq vs.toArray }) (ai : IntsAre vs ns) (le : ns.length ≤ sizeLine) (rm : Room k callerA)
    (F : ∀ base : Heap, K.In base → base.Ns mainGlobals mg → FnG P w K mg base k fa fd [x] (spP K cl 1 d)) (bi : ∀ (s : Shared) (u : Value), BindsTo s fd ⟨[u], []⟩ [(x, u)]) (T : LawTrue d ns) :
    codeAny (model P w) callerA (.call (.ref fa) ⟨[.ref a], []⟩) (fun r s' => r = .ok (.ret (.bool true)) ∧ OldK s₁.heap s'.heap ∧ s'.os = s₁.os ∧ AllBare s'.gens) s₁ := by
  have rv := vals_ints ai
  have len := ai.length
  have main : ∀ t : Bool, (t = true → K.lookup a = none) → FzL K (scrH t a vs ns) a (ns.map V.int) → codeAny (model P w) callerA (.call (.ref fa) ⟨[.ref a], []⟩) (fun r s' => r = .ok (.ret (.bool true)) ∧ OldK s₁.heap s'.heap ∧ s'.os = s₁.os ∧ AllBare s'.gens) s₁ := by
    intro t ht hz
    have old : ∀ {b : Addr} {o : Obj}, s₁.heap.get? b = some o → scrH t a vs ns b = none → (hidT s₁.heap (scrH t a vs ns)).get? b = some o := fun e n => hidT_get e n
    have free : ∀ {b : Addr} {o : Obj}, s₁.heap.get? b = some o → o ≠ { cls := .type "list", data := .seq vs.toArray } → scrH t a vs ns b = none := fun {b o} e z => by
      cases q : scrH t a vs ns b with
      | none => rfl
      | some u =>
        obtain ⟨_, rfl, _⟩ := scr_some q
        rw [ea] at e
        exact absurd (Option.some.inj e).symm z
    have nsv : ∀ {b : Addr} {m : Str → Option Value}, s₁.heap.Ns b m → (hidT s₁.heap (scrH t a vs ns)).Ns b m := fun {b m} ⟨o, es, ep, e, dd, r⟩ => ⟨o, es, ep, old e (free e fun z => by rw [z] at dd; cases dd), dd, r⟩
    have KB : K.In (hidT s₁.heap (scrH t a vs ns)) := fun b o e => old (KX b o e) (by
      cases q : scrH t a vs ns b with
      | none => rfl
      | some u =>
        obtain ⟨z, rfl, _⟩ := scr_some q
        rw [ht z] at e
        cases e)
    have ok : HOk P w (scrH t a vs ns) s₁.heap := fun b u e => by
      obtain ⟨_, rfl, rfl⟩ := scr_some e
      exact ⟨ea, by rw [List.length_map]; exact le, vs, _, rv, ea⟩
    have env : Env0 P w K mg (hidT s₁.heap (scrH t a vs ns)) callerA [] s₁ (scrH t a vs ns) :=
      ⟨rfl, ⟨KB, nsv gm, ⟨mb, nsv gb, bb⟩, let ⟨m, h1, h2⟩ := nl; ⟨m, nsv h1, h2⟩⟩, fun b o e => of_hidT e, Nat.le_of_eq (hidT_size _ _), trivial, fun b hb => absurd (show b ∈ ([] : List Addr) from hb) (by simp), ok, .of_eq g0⟩
    obtain ⟨h1, e1⟩ := T
    have wish : spP K cl 1 d [.ref a] (scrH t a vs ns) (fun v _ => v = .bl true) (fun _ _ _ => False) := by
      refine ⟨[], [.sq (ns.map D.int)], [], rfl, .cons (.sq hz (rep_ints _ _ ns)) .nil, ⟨rfl, .nil, fun k a o e => by simp at e⟩, ?_⟩
      rw [e1]
      intro φ' H' v _ _ r
      cases r
      rfl
    refine codeAny_mono ((F _ KB (nsv gm)).run callerA [] s₁ (scrH t a vs ns) ⟨[.ref a], []⟩ [.ref a] [.ref a] _ _ rm rfl env (bi s₁ (.ref a)) (.cons rfl .nil) wish) fun r s' h => ?_
    cases r with
    | error e =>
      obtain ⟨_, _, _, _, _, _, _, _, _, _, _, _, z⟩ := h
      exact z.elim
    | ok fl =>
      cases fl with
      | ret u =>
        obtain ⟨v, H', eo, br, un, ok', ru, rfl⟩ := h
        obtain rfl : u = Value.bool true := ru
        refine ⟨rfl, OldK.of_keep fun b o e => ?_, eo, br⟩
        cases q : scrH t a vs ns b with
        | none => exact un.keep b o e q (fun z => absurd (show b ∈ ([] : List Addr) from z) (by simp)) (by simp)
        | some u =>
          obtain ⟨z1, rfl, rfl⟩ := scr_some q
          obtain ⟨e3, _⟩ := ok' b _ (un.frzs b _ _ q)
          rw [ea] at e
          cases e
          exact e3
      | next => exact False.elim h
      | brk => exact False.elim h
      | cont => exact False.elim h
  cases hk : K.lookup a with
  | none => exact main true (fun _ => hk) (.inl ⟨_, scr_at⟩)
  | some o =>
    have e := KX a o hk
    rw [ea] at e
    cases e
    exact main false (fun z => nomatch z) (.inr (.inr ⟨_, vs.toArray, _, hk, rfl, rfl, rfl, by rw [List.size_toArray, len]; exact le, by simpa using rv⟩))
theorem walkG {l : PySem.W.OpenLaw} {n k : Nat} {q : Program} {loose : List Str} {XP : (Str → Option Value) → Heap → Prop} {YP : World → Heap → Prop} {dr : DefRec} {K : Params → PySem.W.Frag} {x : Str} {d : Fn} (hn : l.most = some n) (hz : n ≤ sizeLine) (df : dr.params.defaults = []) (rm : Room k callerA)
    (hY : ∀ (w : World) (h : Heap), YP w h → (K w.params).In h) (T : ∀ ns : List Int, ns.length ≤ n → LawTrue d ns)
    (F : ∀ (w : World) (mg : Str → Option Value) (fa : Addr) (h : Heap), (K w.params).In h → h.Ns mainGlobals mg → mg dr.name = some (.ref fa) →
      ∃ (fd : FuncData) (cl : Nat → Addr), (∀ (s : Shared) (u : Value), BindsTo s fd ⟨[u], []⟩ [(x, u)]) ∧ ∀ base : Heap, (K w.params).In base → base.Ns mainGlobals mg → FnG l.prog w (K w.params) mg base k fa fd [x] (spP (K w.params) cl 1 d)) :
    PySem.W.WalkO q loose XP YP l.row.toRowW dr [] (fun f vs => PySem.call f vs) := by
  refine Att.attach_call hn df fun w s₀ s₁ mg mb fa o pm cd doc a vs ns G Y _ _ _ em ea ai le g0 => ?_
  have KX := hY w _ Y
  obtain ⟨fd, cl, b, f⟩ := F w mg fa _ KX G.T.g em
  exact law_run KX G.T.g G.T.b G.T.builtins G.T.nolimit g0 ea ai (Nat.le_trans le hz) rm f b (T ns le)
end
end Y
end

section
set_option Elab.async false
set_option linter.all false
set_option maxRecDepth 100000
set_option maxHeartbeats 2000000
/-! YL: what a generator prints with. -/
namespace Y
open PySem PySem.Spec PyProof.Rows L2

/-- any sequence that is never changed, walked -/
def iA (f : Ev) : Iv := fun σ h => (f σ h).bind fun x h1 => match x with
  | .tup xs => .ok xs h1
  | .fl xs => .ok xs h1
  | .sq xs => .ok xs h1
  | _ => .bad
section
variable {X : Cx} {cl : Nat → Addr} {W : WX} {tg e a b : Expr} {f : Ev} {fa : Av} {pos : Pos} {k : Nat}
theorem pi_seq {te : TE} (he : PE X e te) : PI X tg e (fun σ H R => te σ H fun x H1 => ∃ a, x = .ref a ∧ (((∃ xs, SqL X.K H1 a xs) ∧ R (Itl X.K a) H1) ∨ ((∃ xs, SqT X.K H1 a xs) ∧ R (Itt X.K a) H1))) := by
  refine ⟨fun pins s σ H R I h => thn (he.run pins s σ H _ I h) fun v s1 ⟨x, H1, I1, r1, a, ex, q⟩ => ?_⟩
  subst ex
  cases r1
  rcases q with ⟨⟨xs, hq⟩, q⟩ | ⟨⟨xs, hq⟩, q⟩
  · obtain ⟨its, rv, p, hz⟩ := I1.list hq
    refine wpAny_pyIter_list p.isList ?_
    exact pi_one (tk := s1.toks) I1 _ (turn_list a _) ⟨_, Heap.get?_push_size _ rfl, rfl, rfl⟩ q
  · obtain ⟨its, rv, p, hz⟩ := I1.tuple hq
    refine wpAny_pyIter_tuple (show s1.heap.IsTuple a its.toArray from p) ?_
    exact pi_one (tk := s1.toks) I1 _ (turn_tuple a _) ⟨_, Heap.get?_push_size _ rfl, rfl, rfl⟩ q
theorem i_any (ha : SE X cl W e f) : SI X cl W tg e (iA f) := PI.of (pi_seq ha) fun σ H R p =>
  seqI (R1 := RR X.K) (k := fun x h1 => match x with | .tup xs => .ok xs h1 | .fl xs => .ok xs h1 | .sq xs => .ok xs h1 | _ => .bad) p (fun φ H1 h1 x v ds h2 R1 r e q => by
    cases x <;> simp at e
    · obtain ⟨rfl, rfl⟩ := e
      cases r with
      | tup hq rr => exact ⟨_, rfl, .inr ⟨⟨_, hq⟩, q _ R1 (drv_tup hq rr)⟩⟩
    · obtain ⟨rfl, rfl⟩ := e
      cases r with
      | fl hq rr => exact ⟨_, rfl, .inl ⟨⟨_, .inl (.inr ⟨_, hq⟩)⟩, q _ R1 (drv_lst (fun H' p => .inl (.inr ⟨_, p.frz _ _ _ hq⟩)) rr)⟩⟩
    · obtain ⟨rfl, rfl⟩ := e
      cases r with
      | sq hq rr => exact ⟨_, rfl, .inl ⟨⟨_, hq.sq⟩, q _ R1 (drv_lst (fun H' p => (hq.per p).sq) rr)⟩⟩) fun x h1 => by cases x <;> simp

/-! ### the context of a comprehension's block -/
theorem Cs.blk {s : Shared} {H : Hp} {sc : Scope} {ce : Env} {fp : List Addr} (c : Cs k X) : Cs k (X.blk s H sc ce fp) := ⟨c.room, c.gd, c.calm, c.nd⟩
theorem takes0 {Y : Cx} : Takes Y W0 := fun u s' ⟨_, _, _, _, _, _, _, _, _, _, _, _, _, _, _, _, w⟩ => w.elim
end

/-! ### a def of the program -/
def Def (P : Program) (w : World) (K : PySem.W.Frag) (mg : Str → Option Value) (base : Heap) (k : Nat) (x : Str) (ps : List Str) (sp : Sp) : Prop :=
  ∃ (f : Addr) (fd : FuncData), mg x = some (.ref f) ∧ PySem.W.keepIn K (.ref f) = true ∧ Binds K fd ps [] ∧ FnG P w K mg base k f fd ps sp
section
variable {X : Cx} {cl : Nat → Addr} {W : WX} {e : Expr} {es : List Expr} {fa : Av} {pos p : Pos} {k j n : Nat} {x : Str} {ps : List Str} {d : Fn} {dl : FnL}
theorem q_call (F : Def X.prog X.w X.K X.mg X.base j x ps (spP X.K cl n d)) (hj : j ≤ k) (c : Cs k X) (tk : Takes X W) (ha : SA X cl W (e :: es) fa) (hal : ∀ σ h xs h', fa σ h = .ok xs h' → xs.length = (e :: es).length) (hn : (e :: es).length = n := by rfl) (hg : Gl X x := by rfl) (hdb : (x == ("__debug__" : Str)) = false := by decide)
    (he : starEach (e :: es) X.env = (false, eval e X.env) :: starEach es X.env := by rfl) (hpl : (backTo pos (starEach es X.env)).any (·.1) = false := by rfl) : SE X cl W (.Call (.Name x p) (e :: es) [] pos) (eCall d fa) := by
  obtain ⟨f, fd, hm, hk, hb, G⟩ := F
  exact s_call (G.mono hj) c tk hg hm hk hb hn hal ha hdb he hpl
theorem q_callL (F : Def X.prog X.w X.K X.mg X.base j x ps (spL X.K cl n dl)) (hj : j ≤ k) (c : Cs k X) (tk : Takes X W) (ha : SA X cl W (e :: es) fa) (hal : ∀ σ h xs h', fa σ h = .ok xs h' → xs.length = (e :: es).length) (hn : (e :: es).length = n := by rfl) (hg : Gl X x := by rfl) (hdb : (x == ("__debug__" : Str)) = false := by decide)
    (he : starEach (e :: es) X.env = (false, eval e X.env) :: starEach es X.env := by rfl) (hpl : (backTo pos (starEach es X.env)).any (·.1) = false := by rfl) : SL X cl W (.Call (.Name x p) (e :: es) [] pos) (lCall dl fa) := by
  obtain ⟨f, fd, hm, hk, hb, G⟩ := F
  exact l_call (G.mono hj) c tk hg hm hk hb hn hal ha hdb he hpl
theorem q_call0 (F : Def X.prog X.w X.K X.mg X.base j x ps (spP X.K cl 0 d)) (hj : j ≤ k) (c : Cs k X) (tk : Takes X W) (hg : Gl X x := by rfl) (hdb : (x == ("__debug__" : Str)) = false := by decide) : SE X cl W (.Call (.Name x p) [] [] pos) (eCall d aN) := by
  obtain ⟨f, fd, hm, hk, hb, G⟩ := F
  exact s_call0 (G.mono hj) c tk hg hm hk hb hdb
end
end Y
end

section
set_option Elab.async false
set_option linter.all false
set_option maxRecDepth 100000
set_option maxHeartbeats 2000000
/-! YM: the pen: what is drawn. -/
namespace Y
open PySem L2

def bPen (i0 q m : Int) : Sv := sSeq (sAsg (gN 1) (eC (.int i0)))
    (sSeq (sFor (iA (eV 0)) (gN 2) (sAsg (gN 1) (Y.e2 oMod (eB bInt (aC (Y.e2 oAdd (Y.e2 oMul (eV 1) (eC (.int q))) (eV 2)) (aN))) (eC (.int m)))))
    (sRet (eDct (pC (eC (.str "cells")) (eFrz (lB mList (aC (eV 0) (aN)))) (pC (eC (.str "at")) (eC (.int 0)) (pC (eC (.str "digits")) (eC (.int 0)) (pC (eC (.str "count")) (eC (.int 0)) (pC (eC (.str "fold")) (eV 1) (pN)))))))))
/-- the draw's last part -/
def bLast (cq ca ex dv : Int) : Sv := (sSeq (sIf (Y.tB (Y.e2 oGt (Y.e2 oIx (eV 0) (eC (.str "digits"))) (eC (.int 0)))) (sSeq (sAsg (gN 3) (Y.e2 oMod (eB bInt (aC (Y.e2 oIx (eV 0) (eC (.str "digits"))) (aN))) (eV 1)))
    (sSeq (sStore (eV 0) (eC (.str "digits")) (Y.e2 oDiv (Y.e2 oIx (eV 0) (eC (.str "digits"))) (eV 1)))
    (sRet (eV 3)))) (sPass))
    (sSeq (sAsg (gN 4) (Y.e2 oAdd (Y.e2 oAdd (Y.e2 oIx (eV 0) (eC (.str "fold"))) (Y.e2 oMul (Y.e2 oIx (eV 0) (eC (.str "count"))) (eC (.int cq)))) (eC (.int ca))))
    (sRet (Y.e2 oMod (Y.e2 oDiv (eB bInt (aC (Y.e2 oMod (Y.e2 oPow (eV 4) (eC (.int ex))) (eC (.int 2305843009213693951))) (aN))) (eC (.int dv))) (eV 1)))))
def bDraw (fq fm cq ca ex dv : Int) : Sv := sSeq (sStore (eV 0) (eC (.str "count")) (Y.e2 oAdd (Y.e2 oIx (eV 0) (eC (.str "count"))) (eC (.int 1))))
    (sSeq (sIf (Y.tAnd (Y.tB (Y.e2 oEq (Y.e2 oIx (eV 0) (eC (.str "digits"))) (eC (.int 0)))) (Y.tB (Y.e2 oLt (Y.e2 oIx (eV 0) (eC (.str "at"))) (eB bLen (aC (Y.e2 oIx (eV 0) (eC (.str "cells"))) (aN)))))) (sSeq (sAsg (gN 2) (Y.e2 oIx (Y.e2 oIx (eV 0) (eC (.str "cells"))) (Y.e2 oIx (eV 0) (eC (.str "at")))))
    (sSeq (sStore (eV 0) (eC (.str "at")) (Y.e2 oAdd (Y.e2 oIx (eV 0) (eC (.str "at"))) (eC (.int 1))))
    (sIf (Y.tB (Y.e2 oGe (eV 2) (Y.e2 oPow (eC (.int 10)) (eC (.int 18))))) (sStore (eV 0) (eC (.str "digits")) (Y.e2 oSub (eV 2) (Y.e2 oPow (eC (.int 10)) (eC (.int 18))))) (sStore (eV 0) (eC (.str "fold")) (Y.e2 oMod (eB bInt (aC (Y.e2 oAdd (Y.e2 oMul (Y.e2 oIx (eV 0) (eC (.str "fold"))) (eC (.int fq))) (eV 2)) (aN))) (eC (.int fm))))))) (sPass))
    (bLast cq ca ex dv))
def dPen (i0 q m : Int) : Fn := fnK 3 (bPen i0 q m)
def dDraw (fq fm cq ca ex dv : Int) : Fn := fnP 5 (bDraw fq fm cq ca ex dv)
/-- the pen as it lies in the heap -/
def kvP (cs : List Int) (p g c f : Int) : List (Key × D) := [(.inr "cells", .fl (cs.map .int)), (.inr "at", .int p), (.inr "digits", .int g), (.inr "count", .int c), (.inr "fold", .int f)]
def penO (cs : List Int) (p g c f : Int) : Ob := .dct (kvP cs p g c f)
section
variable {cs : List Int} {p g c f : Int}
theorem get_cells : getK (kvP cs p g c f) (.inr "cells") = some (.fl (cs.map .int)) := rfl
theorem get_at : getK (kvP cs p g c f) (.inr "at") = some (.int p) := rfl
theorem get_dig : getK (kvP cs p g c f) (.inr "digits") = some (.int g) := rfl
theorem get_cnt : getK (kvP cs p g c f) (.inr "count") = some (.int c) := rfl
theorem get_fold : getK (kvP cs p g c f) (.inr "fold") = some (.int f) := rfl
theorem set_at {x : Int} : setK (kvP cs p g c f) (.inr "at") (.int x) = kvP cs x g c f := rfl
theorem set_dig {x : Int} : setK (kvP cs p g c f) (.inr "digits") (.int x) = kvP cs p x c f := rfl
theorem set_cnt {x : Int} : setK (kvP cs p g c f) (.inr "count") (.int x) = kvP cs p g x f := rfl
theorem set_fold {x : Int} : setK (kvP cs p g c f) (.inr "fold") (.int x) = kvP cs p g c x := rfl
theorem kv_len : (kvP cs p g c f).length = 5 := rfl
end
/-- a pen that can be drawn from, n draws being allowed still -/
structure PenAt (h : Hm) (k : Nat) (n : Nat) : Prop where
  ex : ∃ (cs : List Int) (p g c f : Int), h[k]? = some (penO cs p g c f) ∧ cs.length ≤ 63 ∧ 0 ≤ p ∧ 0 ≤ g ∧ 0 ≤ c ∧ c + n < 1000000000 ∧ 0 ≤ f ∧ f < 2147483648
theorem big_ok {i : Int} (h1 : -1000000000000000 < i) (h2 : i < 1000000000000000) : -big < i ∧ i < big := by
  unfold big; omega
theorem mulOk_l {i j : Int} (h1 : -1000000000000 < i) (h2 : i < 1000000000000) : mulOk i j = true := by
  have e1 : decide (-big < i) = true := decide_eq_true (by unfold big; omega)
  have e2 : decide (i < big) = true := decide_eq_true (by unfold big; omega)
  unfold mulOk
  rw [e1, e2]
  rfl
theorem mulOk_r {i j : Int} (h1 : -1000000000000 < j) (h2 : j < 1000000000000) : mulOk i j = true := by
  have e1 : decide (-big < j) = true := decide_eq_true (by unfold big; omega)
  have e2 : decide (j < big) = true := decide_eq_true (by unfold big; omega)
  unfold mulOk
  rw [e1, e2]
  simp
section
variable {h : Hm} {k : Nat} {cs : List Int} {p g c f x : Int}
theorem pen_get (lk : k < h.length) {o : Ob} : (h.set k o)[k]? = some o := by rw [List.getElem?_set_self lk]
theorem pen_ix (lk : k < h.length) {y : Str} : oIx (h.set k (penO cs p g c f)) (.loc k) (.str y) = getK (kvP cs p g c f) (.inr y) := by
  simp [oIx, dctOf, pen_get lk, penO, oDget, keyOf]
theorem pen_setD (lk : k < h.length) {y : Str} {v : D} : setD (h.set k (penO cs p g c f)) (.loc k) (.str y) v = some (h.set k (.dct (setK (kvP cs p g c f) (.inr y) v))) := by
  simp [setD, pen_get lk, penO, keyOf, kv_len, line]
theorem r_cells (lk : k < h.length) : oIx (h.set k (penO cs p g c f)) (.loc k) (.str "cells") = some (.fl (cs.map .int)) := (pen_ix lk).trans get_cells
theorem r_at (lk : k < h.length) : oIx (h.set k (penO cs p g c f)) (.loc k) (.str "at") = some (.int p) := (pen_ix lk).trans get_at
theorem r_dig (lk : k < h.length) : oIx (h.set k (penO cs p g c f)) (.loc k) (.str "digits") = some (.int g) := (pen_ix lk).trans get_dig
theorem r_cnt (lk : k < h.length) : oIx (h.set k (penO cs p g c f)) (.loc k) (.str "count") = some (.int c) := (pen_ix lk).trans get_cnt
theorem r_fold (lk : k < h.length) : oIx (h.set k (penO cs p g c f)) (.loc k) (.str "fold") = some (.int f) := (pen_ix lk).trans get_fold
theorem w_at (lk : k < h.length) : setD (h.set k (penO cs p g c f)) (.loc k) (.str "at") (.int x) = some (h.set k (penO cs x g c f)) := by rw [pen_setD lk, set_at]; rfl
theorem w_dig (lk : k < h.length) : setD (h.set k (penO cs p g c f)) (.loc k) (.str "digits") (.int x) = some (h.set k (penO cs p x c f)) := by rw [pen_setD lk, set_dig]; rfl
theorem w_cnt (lk : k < h.length) : setD (h.set k (penO cs p g c f)) (.loc k) (.str "count") (.int x) = some (h.set k (penO cs p g x f)) := by rw [pen_setD lk, set_cnt]; rfl
theorem w_fold (lk : k < h.length) : setD (h.set k (penO cs p g c f)) (.loc k) (.str "fold") (.int x) = some (h.set k (penO cs p g c x)) := by rw [pen_setD lk, set_fold]; rfl
end
theorem last_ok (cq ca ex dv : Int) (C : 0 ≤ cq ∧ cq < 1000000 ∧ 0 ≤ ca ∧ ca < 1000000 ∧ 0 ≤ ex ∧ ex < 1000 ∧ 0 < dv ∧ dv < 1000000) {h : Hm} {k : Nat} (lk : k < h.length) {cs : List Int} {p g c f many : Int} (y2 : Option D) (g0 : 0 ≤ g) (c0 : 0 ≤ c) (c1 : c < 1000000000) (f0 : 0 ≤ f) (f1 : f < 2147483648)
    (m0 : 0 < many) (m1 : many < 1073741824) : ∃ r g' : Int, bLast cq ca ex dv [some (.loc k), some (.int many), y2, none, none] (h.set k (penO cs p g c f)) = .rt (.int r) (h.set k (penO cs p g' c f)) ∧ 0 ≤ r ∧ r < many ∧ 0 ≤ g' := by
  obtain ⟨q5, q6, q7, q8, q9, q10, q11, q12⟩ := C
  by_cases hg : 0 < g
  · refine ⟨g % many, g / many, ?_, Int.emod_nonneg _ (by omega), Int.emod_lt_of_pos _ m0, Int.ediv_nonneg g0 (by omega)⟩
    simp [bLast, sStore, bInt, r_dig lk, w_dig lk, hg, m0, m1, fnP, sSeq, sAsg, sRet, sIf, sPass, eV, Rs.out, Rs.bind, outO, gN, Y.e2, eC, aN, aC, oMod, oGt, oDiv, ofO, Y.tB, eB]
  · have hg' : g = 0 := by omega
    subst hg'
    have b0 : 0 ≤ c * cq := Int.mul_nonneg c0 q5
    have b1 : c * cq ≤ 1000000000 * 1000000 := by
      have := Int.mul_le_mul (a := c) (b := cq) (c := 1000000000) (d := 1000000) (by omega) (by omega) q5 (by omega)
      exact this
    have a1 : mulOk c cq = true := mulOk_l (by omega) (by omega)
    have a2 : 0 ≤ ex ∧ ex ≤ 1000000 ∧ -big < f + c * cq + ca ∧ f + c * cq + ca < big := ⟨q9, by omega, by unfold big; omega, by unfold big; omega⟩
    have a3 : 0 < dv ∧ dv < 1073741824 := ⟨q11, by omega⟩
    refine ⟨_, 0, ?_, Int.emod_nonneg ((f + c * cq + ca) ^ ex.toNat % 2305843009213693951 / dv) (Int.ne_of_gt m0), Int.emod_lt_of_pos _ m0, Int.le_refl _⟩
    simp [bLast, bInt, r_dig lk, r_fold lk, r_cnt lk, a1, a2, a3, m0, fnP, sSeq, sAsg, sRet, sIf, sPass, eV, Rs.out, Rs.bind, outO, gN, Y.e2, eC, aN, aC, oMod, oMul, oAdd, oPow, oGt, oDiv, ofO, Y.tB, eB]
theorem ix_ints {cs : List Int} {p x : Int} {h : Hm} (p0 : 0 ≤ p) (hx : cs[p.toNat]? = some x) : oIx h (.fl (cs.map .int)) (.int p) = some (.int x) := by
  have lp : p.toNat < cs.length := (List.getElem?_eq_some_iff.mp hx).1
  simp only [oIx, dctOf, ixD, seqOf, lstOf, Option.bind_some]
  unfold L2.atI L2.ixN
  rw [if_pos p0, if_pos (by rw [List.length_map]; omega), Option.bind_some, List.getElem?_map, hx]
  rfl
theorem draw (fq fm cq ca ex dv : Int) (C : 0 ≤ fq ∧ fq < 1000000000 ∧ 0 < fm ∧ fm ≤ 2147483648 ∧ 0 ≤ cq ∧ cq < 1000000 ∧ 0 ≤ ca ∧ ca < 1000000 ∧ 0 ≤ ex ∧ ex < 1000 ∧ 0 < dv ∧ dv < 1000000)
    {h : Hm} {k n : Nat} (hp : PenAt h k (n + 1)) {many : Int} (m0 : 0 < many) (m1 : many < 1073741824) :
    ∃ (r : Int) (o : Ob), dDraw fq fm cq ca ex dv [.loc k, .int many] h = .ok (.int r) (h.set k o) ∧ 0 ≤ r ∧ r < many ∧ PenAt (h.set k o) k n := by
  obtain ⟨cs, p, g, c, f, hk, hl, p0, g0, c0, c1, f0, f1⟩ := hp.ex
  have lk : k < h.length := (List.getElem?_eq_some_iff.mp hk).1
  obtain ⟨q1, q2, q3, q4, C2⟩ := C
  have eh : h = h.set k (penO cs p g c f) := by
    apply List.ext_getElem?
    intro j
    by_cases hj : j = k
    · subst hj; rw [pen_get lk, hk]
    · rw [List.getElem?_set_ne (Ne.symm hj)]
  have done : ∀ (y2 : Option D) (p' g' f' : Int), 0 ≤ p' → 0 ≤ g' → 0 ≤ f' → f' < 2147483648 → ∀ o : Out, o = bLast cq ca ex dv [some (.loc k), some (.int many), y2, none, none] (h.set k (penO cs p' g' (c + 1) f')) →
      ∃ (r : Int) (ob : Ob), (match o with | .rt d h' => finP h d h' | .nx _ h' => finP h .non h' | .ex e _ h' => .ex e h' | _ => .bad) = Rs.ok (.int r) (h.set k ob) ∧ 0 ≤ r ∧ r < many ∧ PenAt (h.set k ob) k n := by
    intro y2 p' g' f' z1 z2 z3 z4 o eo
    obtain ⟨r, g2, e, r0, r1, g3⟩ := last_ok cq ca ex dv C2 lk (cs := cs) (p := p') (g := g') (c := c + 1) (f := f') y2 z2 (by omega) (by omega) z3 z4 m0 m1
    rw [e] at eo
    subst eo
    refine ⟨r, penO cs p' g2 (c + 1) f', ?_, r0, r1, ⟨cs, p', g2, c + 1, f', pen_get lk, hl, z1, g3, by omega, by omega, z3, z4⟩⟩
    simp [finP]
  show ∃ (r : Int) (ob : Ob), (match bDraw fq fm cq ca ex dv [some (.loc k), some (.int many), none, none, none] h with | .rt d h' => finP h d h' | .nx _ h' => finP h .non h' | .ex e _ h' => .ex e h' | _ => .bad) = Rs.ok (.int r) (h.set k ob) ∧ 0 ≤ r ∧ r < many ∧ PenAt (h.set k ob) k n
  by_cases hb : g = 0 ∧ p < cs.length
  · obtain ⟨hg, hp1⟩ := hb
    subst hg
    obtain ⟨x, hx⟩ : ∃ x, cs[p.toNat]? = some x := ⟨cs[p.toNat]'(by omega), List.getElem?_eq_getElem (by omega)⟩
    have ix : ∀ h, oIx h (.fl (cs.map .int)) (.int p) = some (.int x) := fun h => ix_ints p0 hx
    have e10 : (10 : Int) ^ (18 : Int).toNat = 1000000000000000000 := by decide
    have a1 : mulOk f fq = true := mulOk_l (by omega) (by omega)
    by_cases hx1 : 1000000000000000000 ≤ x
    · refine done (some (.int x)) (p + 1) (x - 1000000000000000000) f (by omega) (by omega) f0 f1 _ ?_
      rw [eh]
      simp [bDraw, sStore, r_dig lk, w_dig lk, r_cnt lk, w_cnt lk, r_at lk, w_at lk, r_cells lk, hp1, ix, hx1, big, fnP, sSeq, sAsg, sRet, sIf, sPass, eV, Rs.out, Rs.bind, outO, gN, Y.e2, eC, aN, aC, oEq, eqD, oAdd, oSub, oLt, oGe, oPow, bLen, seqOf, lstOf, Y.tAnd, ofO, Y.tB, eB]
    · refine done (some (.int x)) (p + 1) 0 ((f * fq + x) % fm) (by omega) (by omega) (Int.emod_nonneg _ (by omega)) (Int.lt_of_lt_of_le (Int.emod_lt_of_pos _ q3) q4) _ ?_
      rw [eh]
      simp [bDraw, sStore, bInt, r_dig lk, w_fold lk, r_fold lk, r_cnt lk, w_cnt lk, r_at lk, w_at lk, r_cells lk, hp1, ix, hx1, a1, q3, big, fnP, sSeq, sAsg, sRet, sIf, sPass, eV, Rs.out, Rs.bind, outO, gN, Y.e2, eC, aN, aC, oEq, eqD, oAdd, oMul, oMod, oSub, oLt, oGe, oPow, bLen, seqOf, lstOf, Y.tAnd, ofO, Y.tB, eB]
  · refine done none p g f p0 g0 f0 f1 _ ?_
    rw [eh]
    by_cases hg : g = 0
    · have hp1 : ¬ p < cs.length := fun z => hb ⟨hg, z⟩
      simp [bDraw, sStore, r_dig lk, r_cnt lk, w_cnt lk, r_at lk, r_cells lk, hp1, hg, fnP, sSeq, sAsg, sRet, sIf, sPass, eV, Rs.out, Rs.bind, outO, gN, Y.e2, eC, aN, aC, oEq, eqD, oAdd, oSub, oLt, bLen, seqOf, lstOf, Y.tAnd, ofO, Y.tB, eB]
    · simp [bDraw, sStore, r_dig lk, r_cnt lk, w_cnt lk, hg, fnP, sSeq, sAsg, sRet, sIf, sPass, eV, Rs.out, Rs.bind, outO, gN, Y.e2, eC, aN, aC, oEq, eqD, oAdd, Y.tAnd, ofO, Y.tB, eB]
/-! ### the pen made -/
theorem pen_loop (q m : Int) (C : 0 ≤ q ∧ q < 1000000000 ∧ 0 < m ∧ m ≤ 2147483648) (s0 : Option D) (h : Hm) : ∀ (ns : List Int) (f : Int) (y : Option D), 0 ≤ f → f < 2147483648 →
    ∃ (f' : Int) (y' : Option D), forL (gN 2) (sAsg (gN 1) (Y.e2 oMod (eB bInt (aC (Y.e2 oAdd (Y.e2 oMul (eV 1) (eC (.int q))) (eV 2)) (aN))) (eC (.int m)))) (ns.map .int) [s0, some (.int f), y] h = .nx [s0, some (.int f'), y'] h ∧ 0 ≤ f' ∧ f' < 2147483648
  | [], f, y, f0, f1 => ⟨f, y, rfl, f0, f1⟩
  | n :: ns, f, y, f0, f1 => by
    obtain ⟨q1, q2, q3, q4⟩ := C
    have a1 : mulOk f q = true := mulOk_l (by omega) (by omega)
    obtain ⟨f', y', e, z0, z1⟩ := pen_loop q m ⟨q1, q2, q3, q4⟩ s0 h ns ((f * q + n) % m) (some (.int n)) (Int.emod_nonneg _ (by omega)) (Int.lt_of_lt_of_le (Int.emod_lt_of_pos _ q3) q4)
    refine ⟨f', y', ?_, z0, z1⟩
    rw [← e]
    simp [forL, bInt, a1, q3, sAsg, eV, Rs.out, Rs.bind, outO, gN, Y.e2, eC, aN, aC, oAdd, oMul, oMod, ofO, eB]
theorem pen_made (i0 q m : Int) (C : 0 ≤ i0 ∧ i0 < 2147483648 ∧ 0 ≤ q ∧ q < 1000000000 ∧ 0 < m ∧ m ≤ 2147483648) (ns : List Int) (hl : ns.length ≤ 63) (h : Hm) :
    ∃ o : Ob, dPen i0 q m [.sq (ns.map .int)] h = .ok (.loc h.length) (h ++ [o]) ∧ PenAt (h ++ [o]) h.length 999999999 := by
  obtain ⟨c1, c2, C⟩ := C
  obtain ⟨f, y, e, f0, f1⟩ := pen_loop q m C (some (.sq (ns.map .int))) h ns i0 none c1 c2
  refine ⟨penO ns 0 0 0 f, ?_, ⟨ns, 0, 0, 0, f, by simp, hl, by omega, by omega, by omega, by omega, f0, f1⟩⟩
  simp [dPen, bPen, fnK, startD, sSeq, sFor, iA, sAsg, eV, Rs.out, Rs.bind, outO, gN, eC, e, sRet, eDct, pC, pN, eFrz, lB, mList, seqOf, lstOf, aC, aN, ofO, kvsOf, keyOf]
  rfl
/-- what is wanted of a draw function -/
def Draws (F : Fn) : Prop := ∀ {h : Hm} {k n : Nat}, PenAt h k (n + 1) → ∀ {many : Int}, 0 < many → many < 1073741824 → ∃ (r : Int) (o : Ob), F [.loc k, .int many] h = .ok (.int r) (h.set k o) ∧ 0 ≤ r ∧ r < many ∧ PenAt (h.set k o) k n
def bPick (F : Fn) : Sv := sRet (Y.e2 oIx (eV 1) (eCall F (aC (eV 0) (aC (eB bLen (aC (eV 1) (aN))) (aN)))))
def dPick (F : Fn) : Fn := fnP 2 (bPick F)
theorem pick_at {xs : List D} {r : Int} (r0 : 0 ≤ r) (r1 : r < xs.length) : ∃ x, L2.atI xs r = some x ∧ xs[r.toNat]? = some x ∧ x ∈ xs := by
  have hl : r.toNat < xs.length := by omega
  refine ⟨xs[r.toNat], ?_, List.getElem?_eq_getElem hl, List.getElem_mem hl⟩
  unfold L2.atI L2.ixN
  rw [if_pos r0, if_pos r1, Option.bind_some]
  exact List.getElem?_eq_getElem hl
theorem pick {F : Fn} (hF : Draws F) {h : Hm} {k n : Nat} (hp : PenAt h k (n + 1)) {d : D} {xs : List D} (hd : d = .fl xs ∨ d = .tup xs) (h0 : 0 < xs.length) (h1 : xs.length < 1073741824) :
    ∃ (x : D) (o : Ob), dPick F [.loc k, d] h = .ok x (h.set k o) ∧ x ∈ xs ∧ PenAt (h.set k o) k n := by
  obtain ⟨r, o, e, r0, r1, hq⟩ := hF hp (many := xs.length) (by omega) (by omega)
  obtain ⟨x, e2, _, hx⟩ := pick_at r0 r1
  refine ⟨x, o, ?_, hx, hq⟩
  rcases hd with rfl | rfl <;> simp [dPick, bPick, fnP, startD, sRet, Y.e2, eV, eCall, aC, aN, eB, bLen, seqOf, lstOf, e, e2, oIx, dctOf, ixD, Rs.bind, ofO, Rs.out, finP]
theorem ll (n : Nat) (h : n ≤ 100000) : (n ≤ line) = True := by
  have : n ≤ line := Nat.le_trans h (by decide)
  simp [this]
/-- a loop that keeps I -/
theorem forL_nx {g : Gv} {b : Sv} (I : Nat → Sl → Hm → Prop) : ∀ (ds : List D) (i : Nat) (σ : Sl) (h : Hm), I (i + ds.length) σ h →
    (∀ (d : D) (j : Nat) (σ : Sl) (h : Hm), d ∈ ds → I (j + 1) σ h → ∃ σ1, g d σ = some σ1 ∧ ∃ σ2 h2, (b σ1 h = .nx σ2 h2 ∨ b σ1 h = .ct σ2 h2) ∧ I j σ2 h2) → ∃ σ' h', forL g b ds σ h = .nx σ' h' ∧ I i σ' h'
  | [], i, σ, h, hi, _ => ⟨σ, h, rfl, hi⟩
  | d :: ds, i, σ, h, hi, hs => by
    obtain ⟨σ1, e1, σ2, h2, e2, i2⟩ := hs d (i + ds.length) σ h List.mem_cons_self hi
    obtain ⟨σ', h', e3, i3⟩ := forL_nx I ds i σ2 h2 i2 fun d j σ h m => hs d j σ h (List.mem_cons_of_mem _ m)
    refine ⟨σ', h', ?_, i3⟩
    rcases e2 with e2 | e2 <;> simp [forL, e1, e2, e3]
/-- one pen, alone in the heap -/
theorem draws1 {F : Fn} (hF : Draws F) {o : Ob} {n : Nat} (hp : PenAt [o] 0 (n + 1)) {many : Int} (m0 : 0 < many) (m1 : many < 1073741824) : ∃ (r : Int) (o' : Ob), F [.loc 0, .int many] [o] = .ok (.int r) [o'] ∧ 0 ≤ r ∧ r < many ∧ PenAt [o'] 0 n := hF hp m0 m1
theorem pick1 {F : Fn} (hF : Draws F) {o : Ob} {n : Nat} (hp : PenAt [o] 0 (n + 1)) {d : D} {xs : List D} (hd : d = .fl xs ∨ d = .tup xs) (h0 : 0 < xs.length) (h1 : xs.length < 1073741824) : ∃ (x : D) (o' : Ob), dPick F [.loc 0, d] [o] = .ok x [o'] ∧ x ∈ xs ∧ PenAt [o'] 0 n := pick hF hp hd h0 h1
theorem PenAt.mono {h : Hm} {k m n : Nat} (p : PenAt h k m) (l : n ≤ m) : PenAt h k n := by
  obtain ⟨cs, q, g, c, f, hk, hl, p0, g0, c0, c1, f0, f1⟩ := p.ex
  exact ⟨cs, q, g, c, f, hk, hl, p0, g0, c0, by omega, f0, f1⟩
theorem while_fuel (c : Tv) (b : Sv) : ∃ N : Nat, 1000000 < N ∧ sWhile c b = whileL c b N := ⟨1000000000000, by decide, rfl⟩
end Y
end

section
set_option Elab.async false
set_option linter.all false
set_option maxRecDepth 100000
set_option maxHeartbeats 2000000
/-! YN: sorted; lists times a number. -/
namespace Y
open PySem PySem.Spec PyProof.Rows L2

section
variable {X : Cx} {k : Nat} {β : Type}
/-- sorted(xs), by what the items stand for -/
theorem sort_gen (c0 : Cs k X) {enc : β → PyData} {toD : β → D} (hpy : ∀ h b, py h (toD b) = some (enc b)) {bs : List β} (hal : PySem.W.AllAlike (bs.map enc)) (hk : PySem.W.Sortable (bs.map enc)) (hd : ∀ b ∈ bs, (enc b).depth ≤ 64)
    {φ : List Addr} {H : Hp} {a : Addr} {vs : List V} (hq : SqL X.K H a vs) (rr : RepL X.K φ H (bs.map toD) vs) :
    CallR X (.builtin "sorted") (fun us H' Q => us = [.ref a] ∧ H' = H ∧ ∀ p vs', H p = none → RepL X.K φ H ((bs.mergeSort (PySem.W.dataLe false enc)).map toD) vs' → Q (.ref p) (upd H p (.lst vs'))) := by
  intro pins s σ H1 xs us Q I r1 hh
  obtain ⟨rfl, rfl, q⟩ := hh
  rw [Vals.ref1 r1]
  obtain ⟨its, rv, hl, hz⟩ := I.list hq
  have each : ∀ {vs : List V} {its : List Value} {bs : List β}, Vals vs its → RepL X.K φ H1 (bs.map toD) vs → PySem.W.EachIs (fun u b => ∃ v, RelV v u ∧ Rep X.K φ H1 (toD b) v) its bs := by
    intro vs its bs r
    induction r generalizing bs with
    | nil =>
      intro q
      cases bs with
      | nil => exact .nil
      | cons b bs => cases q
    | cons h1 _ ih =>
      intro q
      cases bs with
      | nil => cases q
      | cons b bs =>
        cases q with
        | cons q1 q2 => exact .cons ⟨_, h1, q1⟩ (ih q2)
  have e := each rv rr
  have er : PySem.W.EachIs (fun u b => ∃ as, Reads s.heap u (enc b) as) its bs := e.mono fun u b ⟨v, r, q⟩ => Dp.reads I _ _ _ (Rep.dp (toD b) v (enc b) (hpy [] b) q) r
  have hlen : bs.length ≤ sizeLine := by
    have := rr.length
    rw [List.length_map] at this
    omega
  have hu := c0.room.un
  refine PySem.W.sorted_data hl.isList e er hal hk hlen (fun b hb => by have := hd b hb; omega) fun out ho eo => ?_
  obtain ⟨ep, he'⟩ := PyProof.Rows.sortedAll_at s.heap its out.toArray
  have back : ∀ {out : List Value} {bs : List β}, PySem.W.EachIs (fun u b => ∃ v, RelV v u ∧ Rep X.K φ H1 (toD b) v) out bs → ∃ vs', Vals vs' out ∧ RepL X.K φ H1 (bs.map toD) vs' := by
    intro out bs r
    induction r with
    | nil => exact ⟨[], .nil, .nil⟩
    | cons h1 _ ih =>
      obtain ⟨v, r1, r2⟩ := h1
      obtain ⟨vs', r3, r4⟩ := ih
      exact ⟨v :: vs', .cons r1 r3, .cons r2 r4⟩
  obtain ⟨vs', v1, v2⟩ := back eo
  have hl2 : vs'.length ≤ sizeLine := by rw [v1.length, ho]; exact hlen
  exact ⟨.ref _, upd H1 (s.heap.objs.size + 1) (.lst vs'), I.laid (t' := s.toks) (fun _ _ => PyProof.Rows.sortedAll_old) (Nat.le_succ _) ⟨hl2, out, ep, v1, by simpa using he'⟩, rfl, q _ _ (I.hok.fresh (Nat.le_succ _)) v2⟩
end

/-! ### by kinds -/
def intsL (ns : List Int) : List Int := ns.mergeSort fun a b => decide (a ≤ b)
def rowsL (ns : List (List Int)) : List (List Int) := ns.mergeSort fun a b => decide (a ≤ b)
def rowD (r : List Int) : D := .tup (r.map .int)
def rowsOf : List D → Option (List (List Int))
  | [] => some []
  | .tup xs :: r => match intsOf xs, rowsOf r with
    | some a, some b => if a.isEmpty then none else some (a :: b)
    | _, _ => none
  | _ => none
def sortD (ds : List D) : Option (List D) := match intsOf ds with
  | some ns => some ((intsL ns).map .int)
  | none => match rowsOf ds with
    | some rs => some ((rowsL rs).map rowD)
    | none => none
/-- sorted(xs), xs a list of ints, of rows of ints -/
def mSorted (h : Hm) : List D → Option (List D)
  | [d] => (lstOf h d).bind sortD
  | _ => none
theorem intsOf_map : ∀ {ds : List D} {ns : List Int}, intsOf ds = some ns → ds = ns.map .int
  | [], ns, e => by simp [intsOf] at e; subst e; rfl
  | d :: ds, ns, e => by
    cases d <;> simp [intsOf] at e
    obtain ⟨a, h1, rfl⟩ := e
    simp [intsOf_map h1]
theorem rowsOf_map : ∀ {ds : List D} {rs : List (List Int)}, rowsOf ds = some rs → ds = rs.map rowD ∧ ∀ r ∈ rs, r ≠ []
  | [], ns, e => by simp [rowsOf] at e; subst e; exact ⟨rfl, fun r m => by simp at m⟩
  | d :: ds, ns, e => by
    cases d <;> simp only [rowsOf] at e <;> try (cases e; done)
    rename_i xs
    cases h1 : intsOf xs with
    | none => rw [h1] at e; cases e
    | some a =>
      cases h2 : rowsOf ds with
      | none => rw [h1, h2] at e; cases e
      | some b =>
        rw [h1, h2] at e
        simp only at e
        split at e
        · cases e
        · rename_i ha
          cases e
          obtain ⟨q1, q2⟩ := rowsOf_map h2
          refine ⟨by simp [rowD, ← q1, intsOf_map h1], fun r m => ?_⟩
          rcases List.mem_cons.mp m with rfl | m
          · simpa using ha
          · exact q2 r m
theorem py_ints (h : Hm) : ∀ ns : List Int, pyL h (ns.map .int) = some (ns.map .int)
  | [] => rfl
  | n :: ns => by simp [pyL, py, py_ints h ns]
theorem py_row (h : Hm) (r : List Int) : py h (rowD r) = some (.tuple (r.map .int)) := by simp [rowD, py, py_ints]
theorem dataLe_tups (x : List Int → List Int) : PySem.W.dataLe false (fun b => PyData.tuple ((x b).map .int)) = fun p q => decide (x p ≤ x q) := by
  funext p q
  show (!PySem.W.dataLt (.tuple ((x q).map .int)) (.tuple ((x p).map .int))) = _
  rw [PySem.W.dataLt_tuple]
  show (!PySem.W.rowLt ((x q).map .int) ((x p).map .int)) = _
  rw [PySem.W.dataLt_ints]
  by_cases h : x q < x p
  · have h' : ¬ x p ≤ x q := fun r => List.not_lt.mpr r h
    simp [h, h']
  · have h' : x p ≤ x q := List.not_lt.mp h
    simp [h, h']
section
variable {X : Cx} {k : Nat}
theorem c_sorted (c0 : Cs k X) : CaL X (.builtin "sorted") mSorted := caL fun Q φ H h xs vs z R r e q => by
  rcases xs with _ | ⟨d, _ | _⟩ <;> simp only [mSorted] at e <;> try (cases e; done)
  obtain ⟨v, rfl, rd⟩ := r.one
  obtain ⟨ys, e1, e2⟩ := Option.bind_eq_some_iff.mp e
  obtain ⟨a, us, rfl, hq, rr⟩ := lst_at R rd e1
  have fin : ∀ p vs', H p = none → RepL X.K φ H z vs' → Q (.ref p) (upd H p (.lst vs')) := fun p vs' hp hr => q φ _ _ (Lat.new hp) (R.new hp) (fresh_new R hp hr)
  unfold sortD at e2
  cases h1 : intsOf ys with
  | some ns =>
    rw [h1] at e2
    cases e2
    have em := intsOf_map h1
    subst em
    have g := sort_gen c0 (enc := PyData.int) (toD := D.int) (fun _ _ => rfl) (bs := ns) (PySem.W.AllAlike.of fun _ _ => rfl) (PySem.W.Sortable.others fun _ => ⟨by simp, by simp⟩) (fun _ _ => by simp [PyData.depth]) hq rr
    rw [PySem.W.dataLe_int (fun b : Int => b)] at g
    exact ⟨_, g, rfl, rfl, fin⟩
  | none =>
    rw [h1] at e2
    cases h2 : rowsOf ys with
    | none => rw [h2] at e2; cases e2
    | some rs =>
      rw [h2] at e2
      cases e2
      obtain ⟨em, hne⟩ := rowsOf_map h2
      subst em
      have g := sort_gen c0 (enc := fun r : List Int => PyData.tuple (r.map .int)) (toD := rowD) (fun h b => py_row h b) (bs := rs)
        (PySem.W.AllAlike.of fun b b' => by simp only [PySem.W.alike]; exact PySem.W.alike_ints b b')
        (.inl fun d hd => by
          obtain ⟨b, hb, rfl⟩ := List.mem_map.mp hd
          cases b with
          | nil => exact absurd rfl (hne _ hb)
          | cons x r => exact ⟨_, _, rfl⟩) (fun b _ => by simp [PyData.depth, PySem.W.depth_ints]) hq rr
      rw [dataLe_tups (fun b => b)] at g
      exact ⟨_, g, rfl, rfl, fin⟩
end
/-! ### [..] * n -/
def lMul (f : Lv) (g : Ev) : Lv := fun σ h => (f σ h).bind fun xs h1 => (g σ h1).bind fun n h2 => match n with
  | .int k => if -4611686018427387904 ≤ k ∧ k < 4611686018427387904 ∧ xs.length * k.toNat ≤ line then .ok (List.replicate k.toNat xs).flatten h2 else .bad
  | _ => .bad
theorem RepL.rep {K : PySem.W.Frag} {φ : List Addr} {H : Hp} {ds : List D} {vs : List V} (r : RepL K φ H ds vs) : ∀ n : Nat, RepL K φ H (List.replicate n ds).flatten (List.replicate n vs).flatten
  | 0 => .nil
  | n + 1 => by
    simp only [List.replicate_succ, List.flatten_cons]
    exact r.append (RepL.rep r n)
section
variable {X : Cx} {cl : Nat → Addr} {W : WX} {a b : Expr} {f : Lv} {g : Ev} {pos : Pos}
theorem l_mul (ha : SL X cl W a f) (hb : SE X cl W b g) : SL X cl W (.BinOp a .Mult b pos) (lMul f g) := by
  refine ⟨fun pins s σ H Q I p => ?_⟩
  obtain ⟨φ, st, h0, S, R0, P⟩ := p
  refine wpAny_BinOp (bin ha hb I (R := fun v u H2 => rRep v u H2 Q) ?_ fun v u s2 x y H2 I2 rx ry q => op_rep pins s2 σ H2 x y v u Q I2 rx ry q)
  refine ⟨φ, st, h0, S, R0, P.seq fun x h1 φ1 H1 v l1 r1 q1 P1 => ⟨φ1, st, h1, S.mono l1, r1, P1.seq fun y h2 φ2 H2 u l2 r2 q2 P2 => ?_⟩⟩
  obtain ⟨p, vs, rfl, n0, nn, ea, rr⟩ := q1
  cases q2 <;> simp only at P2 <;> try (exact P2.elim)
  rename_i k
  split at P2
  · rename_i hc
    refine ⟨p, k, vs, rfl, rfl, l2.keep p _ ea nn, by omega, by omega, by rw [← rr.length, ← line_eq]; exact hc.2.2, fun p' hp => ?_⟩
    exact P2 φ2 _ _ (Lat.new hp) (r2.new hp) (fresh_new r2 hp (RepL.mono l2.pre l2.per _ _ (rr.rep _)))
  · exact P2.elim
end
end Y
end

section
set_option Elab.async false
set_option linter.all false
set_option maxRecDepth 100000
set_option maxHeartbeats 4000000
namespace K27
open PySem PySem.Spec PyProof.Rows L2 Y
def top (i : Nat) : Stmt := PySem.Challenge.pw_sixtylines_k27_whole_numbers_at_two.main.body.getD i (.Pass ⟨0, 0, 0, 0⟩)
section
variable {P : Program} {w : World} {K : PySem.W.Frag} {mg : Str → Option Value} {base : Heap} {cl : Nat → Addr} {f : Addr} {fd : FuncData}
abbrev s_u_law_pen : Stmt := top 29
def b_u_law_pen_l1 : Sv := sAsg (gN 1) (e2 oMod (eB bInt (aC (e2 oAdd (e2 oMul (eV 1) (eC (.int 131))) (eV 2)) (aN))) (eC (.int 1000000579)))
def b_u_law_pen_2 : Sv := sRet (eDct (pC (eC (.str "cells")) (eFrz (lB mList (aC (eV 0) (aN)))) (pC (eC (.str "at")) (eC (.int 0)) (pC (eC (.str "digits")) (eC (.int 0)) (pC (eC (.str "count")) (eC (.int 0)) (pC (eC (.str "fold")) (eV 1) (pN)))))))
def b_u_law_pen_1 : Sv := sSeq (sFor (iA (eV 0)) (gN 2) (b_u_law_pen_l1))
    (b_u_law_pen_2)
def b_u_law_pen : Sv := sSeq (sAsg (gN 1) (eC (.int 89)))
    (b_u_law_pen_1)
def d_u_law_pen : Fn := fnK 3 b_u_law_pen
theorem sc_u_law_pen : FnScope ["script", "fold", "cell"] ["script"] (defScope s_u_law_pen) := ⟨rfl, rfl, rfl, by decide +kernel, rfl, by decide +kernel, by decide +kernel⟩
theorem fn_u_law_pen (F : Fun K "_law_pen" "_law_pen" s_u_law_pen f fd) (z_int : mg "int" = none) (z_list : mg "list" = none)  :
    FnG P w K mg base 1 f fd ["script"] (spP K cl 1 d_u_law_pen) := by
  refine fn_K (N := ["script", "fold", "cell"]) F sc_u_law_pen ?_
  rintro ⟨prog, w2, K2, mg2, base2, A, N, s0, H0, ⟨sc, lo, gl, ce, qu, fu, co, fr, bl⟩, outer, stack, ex, fn, calm, pn, xe⟩ e1 e2 e3 e4 e5 e6 e7 e8 e9 e10 E c tk hp
  dsimp only at e1 e2 e3 e4 e5 e6 e7 e8 e9 e10
  subst e1 e2 e3 e4 e5 e6 e7 e8 e9 e10
  exact ss_cons (s_set (j := 1) c.nd (s_int))
    (ss_cons (s_for hp c.calm (i_any (s_v 0)) (g_n 2 c.nd) (ss_one (s_set (j := 1) c.nd (s_op y_mod (s_bT c_int rfl z_int rfl (a_cons (s_op y_add (s_op y_mul (s_v 1) (s_int)) (s_v 2)) (a_nil))) (s_int)))))
    (ss_one (s_ret (s_dct (p_cons (s_str) (s_frz (l_bT c_list rfl z_list rfl (a_cons (s_v 0) (a_nil)))) (p_cons (s_str) (s_int) (p_cons (s_str) (s_int) (p_cons (s_str) (s_int) (p_cons (s_str) (s_v 1) (p_nil)))))) (by rfl) (by rfl) (by decide) (by decide)))))
abbrev s_u_law_at_two : Stmt := top 31
def b_u_law_at_two_3 : Sv := sRet (eIf (tAnd (tB (eCh oLt oLt (eC (.int 0)) (eV 0) (e2 oSub (eV 4) (eC (.int 1))))) (tAnd (tB (e2 oLt (eV 2) (eV 0))) (tB (e2 oLe (eV 3) (eV 0))))) (eTup (aC (eV 4) (aC (eV 0) (aC (eV 2) (aC (eV 3) (aN)))))) (eC .non))
def b_u_law_at_two_2 : Sv := sSeq (sAsg (gN 4) (e2 oAdd (e2 oAdd (eC (.int 1)) (eV 0)) (e2 oDiv (e2 oMul (eV 0) (e2 oSub (e2 oSub (eV 0) (eV 2)) (eC (.int 1)))) (eV 3))))
    (b_u_law_at_two_3)
def b_u_law_at_two_1 : Sv := sSeq (sIf (tOr (tB (e2 oLt (eV 2) (eC (.int 0)))) (tOr (tB (e2 oLt (eV 3) (eC (.int 1)))) (tB (e2 oNe (e2 oMod (e2 oMul (eV 0) (e2 oSub (e2 oSub (eV 0) (eV 2)) (eC (.int 1)))) (eV 3)) (eC (.int 0)))))) (sRet (eC .non)) (sPass))
    (b_u_law_at_two_2)
def b_u_law_at_two : Sv := sSeq (sPar 2 3 (aC (e2 oSub (e2 oSub (eV 0) (eV 1)) (eC (.int 2))) (aC (e2 oSub (eV 0) (e2 oMul (eC (.int 2)) (eV 1))) aN)))
    (b_u_law_at_two_1)
def d_u_law_at_two : Fn := fnP 5 b_u_law_at_two
theorem sc_u_law_at_two : FnScope ["k", "r", "l", "m", "n"] ["k", "r"] (defScope s_u_law_at_two) := ⟨rfl, rfl, rfl, by decide +kernel, rfl, by decide +kernel, by decide +kernel⟩
theorem fn_u_law_at_two (F : Fun K "_law_at_two" "_law_at_two" s_u_law_at_two f fd)   :
    FnG P w K mg base 1 f fd ["k", "r"] (spP K cl 2 d_u_law_at_two) := by
  refine fn_P (N := ["k", "r", "l", "m", "n"]) F sc_u_law_at_two ?_
  rintro ⟨prog, w2, K2, mg2, base2, A, N, s0, H0, ⟨sc, lo, gl, ce, qu, fu, co, fr, bl⟩, outer, stack, ex, fn, calm, pn, xe⟩ e1 e2 e3 e4 e5 e6 e7 e8 e9 e10 E c tk hp
  dsimp only at e1 e2 e3 e4 e5 e6 e7 e8 e9 e10
  subst e1 e2 e3 e4 e5 e6 e7 e8 e9 e10
  exact ss_cons (s_par (j := 2) (l := 3) c.calm c.nd (a_cons (s_op y_sub (s_op y_sub (s_v 0) (s_v 1)) (s_int)) (a_cons (s_op y_sub (s_v 0) (s_op y_mul (s_int) (s_v 1))) a_nil)))
    (ss_cons (s_ifS (t_w (w_or (t_cmp (y_lt c) (s_v 2) (s_int) rfl) (w_or (t_cmp (y_lt c) (s_v 3) (s_int) rfl) (w_or1 (t_cmp (y_ne c) (s_op y_mod (s_op y_mul (s_v 0) (s_op y_sub (s_op y_sub (s_v 0) (s_v 2)) (s_int))) (s_v 3)) (s_int) rfl))))) (ss_one (s_ret (s_non))) (ss_nil))
    (ss_cons (s_set (j := 4) c.nd (s_op y_add (s_op y_add (s_int) (s_v 0)) (s_op y_div (s_op y_mul (s_v 0) (s_op y_sub (s_op y_sub (s_v 0) (s_v 2)) (s_int))) (s_v 3))))
    (ss_one (s_ret (s_if (t_w (w_and (t_chain (y_lt c) (y_lt c) (s_int) (s_v 0) (s_op y_sub (s_v 4) (s_int)) ) (w_and (t_cmp (y_lt c) (s_v 2) (s_v 0) rfl) (w_and1 (t_cmp y_le (s_v 3) (s_v 0) rfl))))) (s_tup (a_cons (s_v 4) (a_cons (s_v 0) (a_cons (s_v 2) (a_cons (s_v 3) (a_nil)))))) (s_non))))))
abbrev s_u_law_draw : Stmt := top 30
def b_u_law_draw_4 : Sv := sRet (e2 oMod (e2 oDiv (eB bInt (aC (e2 oMod (e2 oPow (eV 4) (eC (.int 17))) (eC (.int 2305843009213693951))) (aN))) (eC (.int 256))) (eV 1))
def b_u_law_draw_3 : Sv := sSeq (sAsg (gN 4) (e2 oAdd (e2 oAdd (e2 oIx (eV 0) (eC (.str "fold"))) (e2 oMul (e2 oIx (eV 0) (eC (.str "count"))) (eC (.int 9341)))) (eC (.int 107))))
    (b_u_law_draw_4)
def b_u_law_draw_2 : Sv := sSeq (sIf (tB (e2 oGt (e2 oIx (eV 0) (eC (.str "digits"))) (eC (.int 0)))) (sSeq (sAsg (gN 3) (e2 oMod (eB bInt (aC (e2 oIx (eV 0) (eC (.str "digits"))) (aN))) (eV 1)))
    (sSeq (sStore (eV 0) (eC (.str "digits")) (e2 oDiv (e2 oIx (eV 0) (eC (.str "digits"))) (eV 1)))
    (sRet (eV 3)))) (sPass))
    (b_u_law_draw_3)
def b_u_law_draw_1 : Sv := sSeq (sIf (tAnd (tB (e2 oEq (e2 oIx (eV 0) (eC (.str "digits"))) (eC (.int 0)))) (tB (e2 oLt (e2 oIx (eV 0) (eC (.str "at"))) (eB bLen (aC (e2 oIx (eV 0) (eC (.str "cells"))) (aN)))))) (sSeq (sAsg (gN 2) (e2 oIx (e2 oIx (eV 0) (eC (.str "cells"))) (e2 oIx (eV 0) (eC (.str "at")))))
    (sSeq (sStore (eV 0) (eC (.str "at")) (e2 oAdd (e2 oIx (eV 0) (eC (.str "at"))) (eC (.int 1))))
    (sIf (tB (e2 oGe (eV 2) (e2 oPow (eC (.int 10)) (eC (.int 18))))) (sStore (eV 0) (eC (.str "digits")) (e2 oSub (eV 2) (e2 oPow (eC (.int 10)) (eC (.int 18))))) (sStore (eV 0) (eC (.str "fold")) (e2 oMod (eB bInt (aC (e2 oAdd (e2 oMul (e2 oIx (eV 0) (eC (.str "fold"))) (eC (.int 84421))) (eV 2)) (aN))) (eC (.int 2147482873))))))) (sPass))
    (b_u_law_draw_2)
def b_u_law_draw : Sv := sSeq (sStore (eV 0) (eC (.str "count")) (e2 oAdd (e2 oIx (eV 0) (eC (.str "count"))) (eC (.int 1))))
    (b_u_law_draw_1)
def d_u_law_draw : Fn := fnP 5 b_u_law_draw
theorem sc_u_law_draw : FnScope ["pen", "many", "cell", "digit", "blend"] ["pen", "many"] (defScope s_u_law_draw) := ⟨rfl, rfl, rfl, by decide +kernel, rfl, by decide +kernel, by decide +kernel⟩
theorem fn_u_law_draw (F : Fun K "_law_draw" "_law_draw" s_u_law_draw f fd) (z_len : mg "len" = none) (z_int : mg "int" = none)  :
    FnG P w K mg base 1 f fd ["pen", "many"] (spP K cl 2 d_u_law_draw) := by
  refine fn_P (N := ["pen", "many", "cell", "digit", "blend"]) F sc_u_law_draw ?_
  rintro ⟨prog, w2, K2, mg2, base2, A, N, s0, H0, ⟨sc, lo, gl, ce, qu, fu, co, fr, bl⟩, outer, stack, ex, fn, calm, pn, xe⟩ e1 e2 e3 e4 e5 e6 e7 e8 e9 e10 E c tk hp
  dsimp only at e1 e2 e3 e4 e5 e6 e7 e8 e9 e10
  subst e1 e2 e3 e4 e5 e6 e7 e8 e9 e10
  exact ss_cons (s_store c (s_v 0) (s_str) (s_op y_add (s_ix c (s_v 0) (s_str) (fun _ _ => rfl)) (s_int)))
    (ss_cons (s_ifS (t_w (w_and (t_cmp (y_eq c) (s_ix c (s_v 0) (s_str) (fun _ _ => rfl)) (s_int) rfl) (w_and1 (t_cmp (y_lt c) (s_ix c (s_v 0) (s_str) (fun _ _ => rfl)) (s_b c_len rfl z_len rfl (a_cons (s_ix c (s_v 0) (s_str) (fun _ _ => rfl)) (a_nil))) rfl)))) (ss_cons (s_set (j := 2) c.nd (s_ix c (s_ix c (s_v 0) (s_str) (fun _ _ => rfl)) (s_ix c (s_v 0) (s_str) (fun _ _ => rfl)) (fun _ _ => rfl)))
    (ss_cons (s_store c (s_v 0) (s_str) (s_op y_add (s_ix c (s_v 0) (s_str) (fun _ _ => rfl)) (s_int)))
    (ss_one (s_ifS (t_cmp y_ge (s_v 2) (s_op y_pow (s_int) (s_int)) rfl) (ss_one (s_store c (s_v 0) (s_str) (s_op y_sub (s_v 2) (s_op y_pow (s_int) (s_int))))) (ss_one (s_store c (s_v 0) (s_str) (s_op y_mod (s_bT c_int rfl z_int rfl (a_cons (s_op y_add (s_op y_mul (s_ix c (s_v 0) (s_str) (fun _ _ => rfl)) (s_int)) (s_v 2)) (a_nil))) (s_int)))))))) (ss_nil))
    (ss_cons (s_ifS (t_cmp y_gt (s_ix c (s_v 0) (s_str) (fun _ _ => rfl)) (s_int) rfl) (ss_cons (s_set (j := 3) c.nd (s_op y_mod (s_bT c_int rfl z_int rfl (a_cons (s_ix c (s_v 0) (s_str) (fun _ _ => rfl)) (a_nil))) (s_v 1)))
    (ss_cons (s_store c (s_v 0) (s_str) (s_op y_div (s_ix c (s_v 0) (s_str) (fun _ _ => rfl)) (s_v 1)))
    (ss_one (s_ret (s_v 3))))) (ss_nil))
    (ss_cons (s_set (j := 4) c.nd (s_op y_add (s_op y_add (s_ix c (s_v 0) (s_str) (fun _ _ => rfl)) (s_op y_mul (s_ix c (s_v 0) (s_str) (fun _ _ => rfl)) (s_int))) (s_int)))
    (ss_one (s_ret (s_op y_mod (s_op y_div (s_bT c_int rfl z_int rfl (a_cons (s_op y_mod (s_op y_pow (s_v 4) (s_int)) (s_int)) (a_nil))) (s_int)) (s_v 1)))))))
abbrev s_is_whole : Stmt := top 6
def b_is_whole : Sv := sRet (eAnd (eIs Ty.int (eV 0)) (e1 uNot (eIs Ty.bool (eV 0))))
def d_is_whole : Fn := fnP 1 b_is_whole
theorem sc_is_whole : FnScope ["value"] ["value"] (defScope s_is_whole) := ⟨rfl, rfl, rfl, by decide +kernel, rfl, by decide +kernel, by decide +kernel⟩
theorem fn_is_whole (F : Fun K "is_whole" "is_whole" s_is_whole f fd) (z_isinstance : mg "isinstance" = none) (z_int : mg "int" = none) (z_bool : mg "bool" = none)  :
    FnG P w K mg base 1 f fd ["value"] (spP K cl 1 d_is_whole) := by
  refine fn_P (N := ["value"]) F sc_is_whole ?_
  rintro ⟨prog, w2, K2, mg2, base2, A, N, s0, H0, ⟨sc, lo, gl, ce, qu, fu, co, fr, bl⟩, outer, stack, ex, fn, calm, pn, xe⟩ e1 e2 e3 e4 e5 e6 e7 e8 e9 e10 E c tk hp
  dsimp only at e1 e2 e3 e4 e5 e6 e7 e8 e9 e10
  subst e1 e2 e3 e4 e5 e6 e7 e8 e9 e10
  exact ss_one (s_ret (s_and (s_isi Ty.int (s_v 0) (hm := z_isinstance) (hm2 := z_int) (hb := rfl) (hn := by decide) (hd := by decide)) (s_one (s_not (s_isi Ty.bool (s_v 0) (hm := z_isinstance) (hm2 := z_bool) (hb := rfl) (hn := by decide) (hd := by decide))))))
abbrev s_is_count : Stmt := top 7
def b_is_count : Sv := sRet (eAnd (eCall d_is_whole (aC (eV 0) (aN))) (e2 oGe (eV 0) (eC (.int 0))))
def d_is_count : Fn := fnP 1 b_is_count
theorem sc_is_count : FnScope ["value"] ["value"] (defScope s_is_count) := ⟨rfl, rfl, rfl, by decide +kernel, rfl, by decide +kernel, by decide +kernel⟩
theorem fn_is_count (F : Fun K "is_count" "is_count" s_is_count f fd)  (D_is_whole : Def P w K mg base 1 "is_whole" ["value"] (spP K cl 1 d_is_whole)) :
    FnG P w K mg base 2 f fd ["value"] (spP K cl 1 d_is_count) := by
  refine fn_P (N := ["value"]) F sc_is_count ?_
  rintro ⟨prog, w2, K2, mg2, base2, A, N, s0, H0, ⟨sc, lo, gl, ce, qu, fu, co, fr, bl⟩, outer, stack, ex, fn, calm, pn, xe⟩ e1 e2 e3 e4 e5 e6 e7 e8 e9 e10 E c tk hp
  dsimp only at e1 e2 e3 e4 e5 e6 e7 e8 e9 e10
  subst e1 e2 e3 e4 e5 e6 e7 e8 e9 e10
  exact ss_one (s_ret (s_and (q_call D_is_whole (by decide) c tk (a_cons (s_v 0) (a_nil)) (al_cons (al_nil))) (s_one (s_cmp y_ge (s_v 0) (s_int) rfl))))
abbrev s_are_numbers : Stmt := top 10
def b_are_numbers_2 : Sv := sRet (eAnd (eCh oLt oLt (eC (.int 0)) (eV 2) (e2 oSub (eV 1) (eC (.int 1)))) (eAnd (e2 oLt (eV 3) (eV 2)) (e2 oLe (eV 4) (eV 2))))
def b_are_numbers_1 : Sv := sSeq (sAsg (gT [gN 1, gN 2, gN 3, gN 4]) (eV 0))
    (b_are_numbers_2)
def b_are_numbers : Sv := sSeq (sIf (tOr (tNot (tT (eIs Ty.tuple (eV 0)))) (tOr (tB (e2 oNe (eB bLen (aC (eV 0) (aN))) (eC (.int 4)))) (tNot (tT (eB bAll (aC (eFrz (lComp (iA (eV 0)) (gN 5) (tYes) (eCall d_is_count (aC (eV 5) (aN))) [5])) (aN))))))) (sRet (eC (.bl false))) (sPass))
    (b_are_numbers_1)
def d_are_numbers : Fn := fnP 6 b_are_numbers
theorem sc_are_numbers : FnScope ["value", "n", "k", "l", "m", "x"] ["value"] (defScope s_are_numbers) := ⟨rfl, rfl, rfl, by decide +kernel, rfl, by decide +kernel, by decide +kernel⟩
theorem fn_are_numbers (F : Fun K "are_numbers" "are_numbers" s_are_numbers f fd) (z_isinstance : mg "isinstance" = none) (z_tuple : mg "tuple" = none) (z_len : mg "len" = none) (z_all : mg "all" = none) (D_is_count : Def P w K mg base 2 "is_count" ["value"] (spP K cl 1 d_is_count)) :
    FnG P w K mg base 3 f fd ["value"] (spP K cl 1 d_are_numbers) := by
  refine fn_P (N := ["value", "n", "k", "l", "m", "x"]) F sc_are_numbers ?_
  rintro ⟨prog, w2, K2, mg2, base2, A, N, s0, H0, ⟨sc, lo, gl, ce, qu, fu, co, fr, bl⟩, outer, stack, ex, fn, calm, pn, xe⟩ e1 e2 e3 e4 e5 e6 e7 e8 e9 e10 E c tk hp
  dsimp only at e1 e2 e3 e4 e5 e6 e7 e8 e9 e10
  subst e1 e2 e3 e4 e5 e6 e7 e8 e9 e10
  exact ss_cons (s_ifS (t_w (w_or (t_not (t_tr (s_isi Ty.tuple (s_v 0) (hm := z_isinstance) (hm2 := z_tuple) (hb := rfl) (hn := by decide) (hd := by decide)))) (w_or (t_cmp (y_ne c) (s_b c_len rfl z_len rfl (a_cons (s_v 0) (a_nil))) (s_int) rfl) (w_or1 (t_not (t_tr (s_b (c_all c.calm) rfl z_all rfl (a_cons (s_frz (l_comp c (i_any (s_v 0)) (own := [("x", 5)]) (blkOk_by rfl) (by decide) (fun s H C cc fp => g_n 5 (c.blk).nd) (fun s H C cc fp => ts_nil) (fun s H C cc fp => q_call D_is_count (by decide) (c.blk) takes0 (a_cons (s_v 5) (a_nil)) (al_cons (al_nil))))) (a_nil))))))))) (ss_one (s_ret (s_bl))) (ss_nil))
    (ss_cons (s_asg (s_v 0) (g_tup c.calm (gs_cons (g_n 1 c.nd) (gs_cons (g_n 2 c.nd) (gs_cons (g_n 3 c.nd) (gs_cons (g_n 4 c.nd) (gs_nil)))))))
    (ss_one (s_ret (s_and (s_chain (y_lt c) (y_lt c) (s_int) (s_v 2) (s_op y_sub (s_v 1) (s_int)) ) (s_and (s_cmp (y_lt c) (s_v 3) (s_v 2) rfl) (s_one (s_cmp y_le (s_v 4) (s_v 2) rfl)))))))
abbrev s_need_numbers : Stmt := top 11
def b_need_numbers : Sv := sIf (tNot (tT (eCall d_are_numbers (aC (eV 0) (aN))))) (sNever) (sPass)
def d_need_numbers : Fn := fnP 1 b_need_numbers
theorem sc_need_numbers : FnScope ["numbers"] ["numbers"] (defScope s_need_numbers) := ⟨rfl, rfl, rfl, by decide +kernel, rfl, by decide +kernel, by decide +kernel⟩
theorem fn_need_numbers (F : Fun K "need_numbers" "need_numbers" s_need_numbers f fd)  (D_are_numbers : Def P w K mg base 3 "are_numbers" ["value"] (spP K cl 1 d_are_numbers)) :
    FnG P w K mg base 4 f fd ["numbers"] (spP K cl 1 d_need_numbers) := by
  refine fn_P (N := ["numbers"]) F sc_need_numbers ?_
  rintro ⟨prog, w2, K2, mg2, base2, A, N, s0, H0, ⟨sc, lo, gl, ce, qu, fu, co, fr, bl⟩, outer, stack, ex, fn, calm, pn, xe⟩ e1 e2 e3 e4 e5 e6 e7 e8 e9 e10 E c tk hp
  dsimp only at e1 e2 e3 e4 e5 e6 e7 e8 e9 e10
  subst e1 e2 e3 e4 e5 e6 e7 e8 e9 e10
  exact ss_one (s_ifS (t_not (t_tr (q_call D_are_numbers (by decide) c tk (a_cons (s_v 0) (a_nil)) (al_cons (al_nil))))) (ss_one (s_never)) (ss_nil))
abbrev s_square_of_difference : Stmt := top 14
def b_square_of_difference_1 : Sv := sRet (e2 oAdd (e2 oMul (e2 oSub (eV 3) (eV 4)) (e2 oSub (eV 3) (eV 4))) (e2 oMul (eC (.int 4)) (e2 oSub (eV 2) (eV 4))))
def b_square_of_difference : Sv := sSeq (sAsg (gT [gN 1, gN 2, gN 3, gN 4]) (eV 0))
    (b_square_of_difference_1)
def d_square_of_difference : Fn := fnP 5 b_square_of_difference
theorem sc_square_of_difference : FnScope ["numbers", "n", "k", "l", "m"] ["numbers"] (defScope s_square_of_difference) := ⟨rfl, rfl, rfl, by decide +kernel, rfl, by decide +kernel, by decide +kernel⟩
theorem fn_square_of_difference (F : Fun K "square_of_difference" "square_of_difference" s_square_of_difference f fd)   :
    FnG P w K mg base 1 f fd ["numbers"] (spP K cl 1 d_square_of_difference) := by
  refine fn_P (N := ["numbers", "n", "k", "l", "m"]) F sc_square_of_difference ?_
  rintro ⟨prog, w2, K2, mg2, base2, A, N, s0, H0, ⟨sc, lo, gl, ce, qu, fu, co, fr, bl⟩, outer, stack, ex, fn, calm, pn, xe⟩ e1 e2 e3 e4 e5 e6 e7 e8 e9 e10 E c tk hp
  dsimp only at e1 e2 e3 e4 e5 e6 e7 e8 e9 e10
  subst e1 e2 e3 e4 e5 e6 e7 e8 e9 e10
  exact ss_cons (s_asg (s_v 0) (g_tup c.calm (gs_cons (g_n 1 c.nd) (gs_cons (g_n 2 c.nd) (gs_cons (g_n 3 c.nd) (gs_cons (g_n 4 c.nd) (gs_nil)))))))
    (ss_one (s_ret (s_op y_add (s_op y_mul (s_op y_sub (s_v 3) (s_v 4)) (s_op y_sub (s_v 3) (s_v 4))) (s_op y_mul (s_int) (s_op y_sub (s_v 2) (s_v 4))))))
abbrev s_rays_in : Stmt := top 15
def b_rays_in_3 : Sv := sRet (eTup (aC (e2 oDiv (e2 oAdd (eV 2) (eV 3)) (eC (.int 2))) (aC (e2 oDiv (e2 oSub (eV 2) (eV 3)) (eC (.int 2))) (aN))))
def b_rays_in_2 : Sv := sSeq (sIf (tOr (tB (e2 oNe (e2 oMul (eV 3) (eV 3)) (eV 1))) (tT (e2 oMod (e2 oAdd (eV 2) (eV 3)) (eC (.int 2))))) (sRet (eC .non)) (sPass))
    (b_rays_in_3)
def b_rays_in_1 : Sv := sSeq (sAsg (gN 3) (eB bSqrt (aC (eV 1) (aN))))
    (b_rays_in_2)
def b_rays_in : Sv := sSeq (sPar 1 2 (aC (eCall d_square_of_difference (aC (eV 0) (aN))) (aC (e2 oSub (e2 oIx (eV 0) (eC (.int 2))) (e2 oIx (eV 0) (eC (.int 3)))) aN)))
    (b_rays_in_1)
def d_rays_in : Fn := fnP 4 b_rays_in
theorem sc_rays_in : FnScope ["numbers", "square", "total", "root"] ["numbers"] (defScope s_rays_in) := ⟨rfl, rfl, rfl, by decide +kernel, rfl, by decide +kernel, by decide +kernel⟩
theorem fn_rays_in (F : Fun K "rays_in" "rays_in" s_rays_in f fd) (z_isqrt : mg "isqrt" = some (.builtin "math.isqrt")) (D_square_of_difference : Def P w K mg base 1 "square_of_difference" ["numbers"] (spP K cl 1 d_square_of_difference)) :
    FnG P w K mg base 2 f fd ["numbers"] (spP K cl 1 d_rays_in) := by
  refine fn_P (N := ["numbers", "square", "total", "root"]) F sc_rays_in ?_
  rintro ⟨prog, w2, K2, mg2, base2, A, N, s0, H0, ⟨sc, lo, gl, ce, qu, fu, co, fr, bl⟩, outer, stack, ex, fn, calm, pn, xe⟩ e1 e2 e3 e4 e5 e6 e7 e8 e9 e10 E c tk hp
  dsimp only at e1 e2 e3 e4 e5 e6 e7 e8 e9 e10
  subst e1 e2 e3 e4 e5 e6 e7 e8 e9 e10
  exact ss_cons (s_par (j := 1) (l := 2) c.calm c.nd (a_cons (q_call D_square_of_difference (by decide) c tk (a_cons (s_v 0) (a_nil)) (al_cons (al_nil))) (a_cons (s_op y_sub (s_ix c (s_v 0) (s_int) (fun _ _ => rfl)) (s_ix c (s_v 0) (s_int) (fun _ _ => rfl))) a_nil)))
    (ss_cons (s_set (j := 3) c.nd (s_bM c_sqrt rfl z_isqrt (a_cons (s_v 1) (a_nil))))
    (ss_cons (s_ifS (t_w (w_or (t_cmp (y_ne c) (s_op y_mul (s_v 3) (s_v 3)) (s_v 1) rfl) (w_or1 (t_tr (s_op y_mod (s_op y_add (s_v 2) (s_v 3)) (s_int)))))) (ss_one (s_ret (s_non))) (ss_nil))
    (ss_one (s_ret (s_tup (a_cons (s_op y_div (s_op y_add (s_v 2) (s_v 3)) (s_int)) (a_cons (s_op y_div (s_op y_sub (s_v 2) (s_v 3)) (s_int)) (a_nil))))))))
abbrev s_times_in : Stmt := top 17
def b_times_in_7 : Sv := sRet (eIf (tB (eCh oLe oLe (eC (.int 0)) (eV 10) (e2 oSub (eV 1) (eC (.int 1))))) (eTup (aC (eV 10) (aC (e2 oSub (e2 oSub (eV 1) (eC (.int 1))) (eV 10)) (aN)))) (eC .non))
def b_times_in_6 : Sv := sSeq (sAsg (gN 10) (e2 oDiv (eV 9) (e2 oSub (eV 7) (eV 8))))
    (b_times_in_7)
def b_times_in_5 : Sv := sSeq (sIf (tOr (tB (e2 oEq (eV 7) (eV 8))) (tT (e2 oMod (eV 9) (e2 oSub (eV 7) (eV 8))))) (sRet (eC .non)) (sPass))
    (b_times_in_6)
def b_times_in_4 : Sv := sSeq (sAsg (gN 9) (e2 oSub (e1 uNeg (eV 2)) (e2 oMul (eV 8) (e2 oSub (eV 1) (eC (.int 1))))))
    (b_times_in_5)
def b_times_in_3 : Sv := sSeq (sAsg (gT [gN 7, gN 8]) (eV 5))
    (b_times_in_4)
def b_times_in_2 : Sv := sSeq (sIf (tB (e2 oIs (eV 5) (eC .non))) (sSeq (sAsg (gN 6) (eAnd (e2 oEq (e2 oMod (e2 oSub (eV 1) (eC (.int 1))) (eC (.int 2))) (eC (.int 0))) (e2 oEq (e2 oAdd (e2 oMul (eC (.int 2)) (eV 2)) (e2 oMul (e2 oSub (eV 1) (eC (.int 1))) (e2 oSub (eV 3) (eV 4)))) (eC (.int 0)))))
    (sRet (eIf (tT (eV 6)) (eTup (aC (e2 oDiv (e2 oSub (eV 1) (eC (.int 1))) (eC (.int 2))) (aC (e2 oDiv (e2 oSub (eV 1) (eC (.int 1))) (eC (.int 2))) (aN)))) (eC .non)))) (sPass))
    (b_times_in_3)
def b_times_in_1 : Sv := sSeq (sAsg (gN 5) (eCall d_rays_in (aC (eV 0) (aN))))
    (b_times_in_2)
def b_times_in : Sv := sSeq (sAsg (gT [gN 1, gN 2, gN 3, gN 4]) (eV 0))
    (b_times_in_1)
def d_times_in : Fn := fnP 11 b_times_in
theorem sc_times_in : FnScope ["numbers", "n", "k", "l", "m", "rays", "is_half", "r", "s", "top", "f"] ["numbers"] (defScope s_times_in) := ⟨rfl, rfl, rfl, by decide +kernel, rfl, by decide +kernel, by decide +kernel⟩
theorem fn_times_in (F : Fun K "times_in" "times_in" s_times_in f fd)  (D_rays_in : Def P w K mg base 2 "rays_in" ["numbers"] (spP K cl 1 d_rays_in)) :
    FnG P w K mg base 3 f fd ["numbers"] (spP K cl 1 d_times_in) := by
  refine fn_P (N := ["numbers", "n", "k", "l", "m", "rays", "is_half", "r", "s", "top", "f"]) F sc_times_in ?_
  rintro ⟨prog, w2, K2, mg2, base2, A, N, s0, H0, ⟨sc, lo, gl, ce, qu, fu, co, fr, bl⟩, outer, stack, ex, fn, calm, pn, xe⟩ e1 e2 e3 e4 e5 e6 e7 e8 e9 e10 E c tk hp
  dsimp only at e1 e2 e3 e4 e5 e6 e7 e8 e9 e10
  subst e1 e2 e3 e4 e5 e6 e7 e8 e9 e10
  exact ss_cons (s_asg (s_v 0) (g_tup c.calm (gs_cons (g_n 1 c.nd) (gs_cons (g_n 2 c.nd) (gs_cons (g_n 3 c.nd) (gs_cons (g_n 4 c.nd) (gs_nil)))))))
    (ss_cons (s_set (j := 5) c.nd (q_call D_rays_in (by decide) c tk (a_cons (s_v 0) (a_nil)) (al_cons (al_nil))))
    (ss_cons (s_ifS (t_cmp y_is (s_v 5) (s_non) rfl) (ss_cons (s_set (j := 6) c.nd (s_and (s_cmp (y_eq c) (s_op y_mod (s_op y_sub (s_v 1) (s_int)) (s_int)) (s_int) rfl) (s_one (s_cmp (y_eq c) (s_op y_add (s_op y_mul (s_int) (s_v 2)) (s_op y_mul (s_op y_sub (s_v 1) (s_int)) (s_op y_sub (s_v 3) (s_v 4)))) (s_int) rfl))))
    (ss_one (s_ret (s_if (t_tr (s_v 6)) (s_tup (a_cons (s_op y_div (s_op y_sub (s_v 1) (s_int)) (s_int)) (a_cons (s_op y_div (s_op y_sub (s_v 1) (s_int)) (s_int)) (a_nil)))) (s_non))))) (ss_nil))
    (ss_cons (s_asg (s_v 5) (g_tup c.calm (gs_cons (g_n 7 c.nd) (gs_cons (g_n 8 c.nd) (gs_nil)))))
    (ss_cons (s_set (j := 9) c.nd (s_op y_sub (s_neg (s_v 2)) (s_op y_mul (s_v 8) (s_op y_sub (s_v 1) (s_int)))))
    (ss_cons (s_ifS (t_w (w_or (t_cmp (y_eq c) (s_v 7) (s_v 8) rfl) (w_or1 (t_tr (s_op y_mod (s_v 9) (s_op y_sub (s_v 7) (s_v 8))))))) (ss_one (s_ret (s_non))) (ss_nil))
    (ss_cons (s_set (j := 10) c.nd (s_op y_div (s_v 9) (s_op y_sub (s_v 7) (s_v 8))))
    (ss_one (s_ret (s_if (t_chain y_le y_le (s_int) (s_v 10) (s_op y_sub (s_v 1) (s_int)) ) (s_tup (a_cons (s_v 10) (a_cons (s_op y_sub (s_op y_sub (s_v 1) (s_int)) (s_v 10)) (a_nil)))) (s_non))))))))))
abbrev s_balanced_in : Stmt := top 12
def b_balanced_in_1 : Sv := sRet (e2 oEq (e2 oMul (eV 2) (e2 oSub (e2 oSub (eV 2) (eV 3)) (eC (.int 1)))) (e2 oMul (e2 oSub (e2 oSub (eV 1) (eV 2)) (eC (.int 1))) (eV 4)))
def b_balanced_in : Sv := sSeq (sAsg (gT [gN 1, gN 2, gN 3, gN 4]) (eV 0))
    (b_balanced_in_1)
def d_balanced_in : Fn := fnP 5 b_balanced_in
theorem sc_balanced_in : FnScope ["numbers", "n", "k", "l", "m"] ["numbers"] (defScope s_balanced_in) := ⟨rfl, rfl, rfl, by decide +kernel, rfl, by decide +kernel, by decide +kernel⟩
theorem fn_balanced_in (F : Fun K "balanced_in" "balanced_in" s_balanced_in f fd)   :
    FnG P w K mg base 1 f fd ["numbers"] (spP K cl 1 d_balanced_in) := by
  refine fn_P (N := ["numbers", "n", "k", "l", "m"]) F sc_balanced_in ?_
  rintro ⟨prog, w2, K2, mg2, base2, A, N, s0, H0, ⟨sc, lo, gl, ce, qu, fu, co, fr, bl⟩, outer, stack, ex, fn, calm, pn, xe⟩ e1 e2 e3 e4 e5 e6 e7 e8 e9 e10 E c tk hp
  dsimp only at e1 e2 e3 e4 e5 e6 e7 e8 e9 e10
  subst e1 e2 e3 e4 e5 e6 e7 e8 e9 e10
  exact ss_cons (s_asg (s_v 0) (g_tup c.calm (gs_cons (g_n 1 c.nd) (gs_cons (g_n 2 c.nd) (gs_cons (g_n 3 c.nd) (gs_cons (g_n 4 c.nd) (gs_nil)))))))
    (ss_one (s_ret (s_cmp (y_eq c) (s_op y_mul (s_v 2) (s_op y_sub (s_op y_sub (s_v 2) (s_v 3)) (s_int))) (s_op y_mul (s_op y_sub (s_op y_sub (s_v 1) (s_v 2)) (s_int)) (s_v 4)) rfl)))
abbrev s_turned_in : Stmt := top 13
def b_turned_in_1 : Sv := sRet (eTup (aC (eV 1) (aC (e2 oSub (e2 oSub (eV 1) (eV 2)) (eC (.int 1))) (aC (e2 oSub (e2 oAdd (e2 oSub (eV 1) (e2 oMul (eC (.int 2)) (eV 2))) (eV 4)) (eC (.int 2))) (aC (e2 oAdd (e2 oSub (eV 1) (e2 oMul (eC (.int 2)) (eV 2))) (eV 3)) (aN))))))
def b_turned_in : Sv := sSeq (sAsg (gT [gN 1, gN 2, gN 3, gN 4]) (eV 0))
    (b_turned_in_1)
def d_turned_in : Fn := fnP 5 b_turned_in
theorem sc_turned_in : FnScope ["numbers", "n", "k", "l", "m"] ["numbers"] (defScope s_turned_in) := ⟨rfl, rfl, rfl, by decide +kernel, rfl, by decide +kernel, by decide +kernel⟩
theorem fn_turned_in (F : Fun K "turned_in" "turned_in" s_turned_in f fd)   :
    FnG P w K mg base 1 f fd ["numbers"] (spP K cl 1 d_turned_in) := by
  refine fn_P (N := ["numbers", "n", "k", "l", "m"]) F sc_turned_in ?_
  rintro ⟨prog, w2, K2, mg2, base2, A, N, s0, H0, ⟨sc, lo, gl, ce, qu, fu, co, fr, bl⟩, outer, stack, ex, fn, calm, pn, xe⟩ e1 e2 e3 e4 e5 e6 e7 e8 e9 e10 E c tk hp
  dsimp only at e1 e2 e3 e4 e5 e6 e7 e8 e9 e10
  subst e1 e2 e3 e4 e5 e6 e7 e8 e9 e10
  exact ss_cons (s_asg (s_v 0) (g_tup c.calm (gs_cons (g_n 1 c.nd) (gs_cons (g_n 2 c.nd) (gs_cons (g_n 3 c.nd) (gs_cons (g_n 4 c.nd) (gs_nil)))))))
    (ss_one (s_ret (s_tup (a_cons (s_v 1) (a_cons (s_op y_sub (s_op y_sub (s_v 1) (s_v 2)) (s_int)) (a_cons (s_op y_sub (s_op y_add (s_op y_sub (s_v 1) (s_op y_mul (s_int) (s_v 2))) (s_v 4)) (s_int)) (a_cons (s_op y_add (s_op y_sub (s_v 1) (s_op y_mul (s_int) (s_v 2))) (s_v 3)) (a_nil))))))))
abbrev s_can_be_in : Stmt := top 19
def b_can_be_in_4 : Sv := sRet (eOr (e1 uNot (eCh oLt oLt (eC (.int 0)) (eV 5) (eV 3))) (eB bAll (aC (eFrz (lComp (iA (eV 1)) (gN 6) (tYes) (e2 oLe (e2 oMul (eC (.int 2)) (eV 2)) (e2 oMul (eV 6) (e2 oAdd (eV 6) (eC (.int 3))))) [6])) (aN))))
def b_can_be_in_3 : Sv := sSeq (sAsg (gT [gN 2, gN 3, gN 4, gN 5]) (eV 0))
    (b_can_be_in_4)
def b_can_be_in_2 : Sv := sSeq (sIf (tB (e2 oIs (eV 1) (eC .non))) (sRet (eC (.bl false))) (sPass))
    (b_can_be_in_3)
def b_can_be_in_1 : Sv := sSeq (sAsg (gN 1) (eCall d_times_in (aC (eV 0) (aN))))
    (b_can_be_in_2)
def b_can_be_in : Sv := sSeq (sIf (tOr (tNot (tT (eCall d_balanced_in (aC (eV 0) (aN))))) (tB (e2 oLt (eB bMin (aC (eCall d_turned_in (aC (eV 0) (aN))) (aN))) (eC (.int 0))))) (sRet (eC (.bl false))) (sPass))
    (b_can_be_in_1)
def d_can_be_in : Fn := fnP 7 b_can_be_in
theorem sc_can_be_in : FnScope ["numbers", "pair", "n", "k", "l", "m", "f"] ["numbers"] (defScope s_can_be_in) := ⟨rfl, rfl, rfl, by decide +kernel, rfl, by decide +kernel, by decide +kernel⟩
theorem fn_can_be_in (F : Fun K "can_be_in" "can_be_in" s_can_be_in f fd) (z_min : mg "min" = none) (z_all : mg "all" = none) (D_balanced_in : Def P w K mg base 1 "balanced_in" ["numbers"] (spP K cl 1 d_balanced_in)) (D_turned_in : Def P w K mg base 1 "turned_in" ["numbers"] (spP K cl 1 d_turned_in)) (D_times_in : Def P w K mg base 3 "times_in" ["numbers"] (spP K cl 1 d_times_in)) :
    FnG P w K mg base 4 f fd ["numbers"] (spP K cl 1 d_can_be_in) := by
  refine fn_P (N := ["numbers", "pair", "n", "k", "l", "m", "f"]) F sc_can_be_in ?_
  rintro ⟨prog, w2, K2, mg2, base2, A, N, s0, H0, ⟨sc, lo, gl, ce, qu, fu, co, fr, bl⟩, outer, stack, ex, fn, calm, pn, xe⟩ e1 e2 e3 e4 e5 e6 e7 e8 e9 e10 E c tk hp
  dsimp only at e1 e2 e3 e4 e5 e6 e7 e8 e9 e10
  subst e1 e2 e3 e4 e5 e6 e7 e8 e9 e10
  exact ss_cons (s_ifS (t_w (w_or (t_not (t_tr (q_call D_balanced_in (by decide) c tk (a_cons (s_v 0) (a_nil)) (al_cons (al_nil))))) (w_or1 (t_cmp (y_lt c) (s_b (c_min c) rfl z_min rfl (a_cons (q_call D_turned_in (by decide) c tk (a_cons (s_v 0) (a_nil)) (al_cons (al_nil))) (a_nil))) (s_int) rfl)))) (ss_one (s_ret (s_bl))) (ss_nil))
    (ss_cons (s_set (j := 1) c.nd (q_call D_times_in (by decide) c tk (a_cons (s_v 0) (a_nil)) (al_cons (al_nil))))
    (ss_cons (s_ifS (t_cmp y_is (s_v 1) (s_non) rfl) (ss_one (s_ret (s_bl))) (ss_nil))
    (ss_cons (s_asg (s_v 0) (g_tup c.calm (gs_cons (g_n 2 c.nd) (gs_cons (g_n 3 c.nd) (gs_cons (g_n 4 c.nd) (gs_cons (g_n 5 c.nd) (gs_nil)))))))
    (ss_one (s_ret (s_or (s_not (s_chain (y_lt c) (y_lt c) (s_int) (s_v 5) (s_v 3) )) (s_one (s_b (c_all c.calm) rfl z_all rfl (a_cons (s_frz (l_comp c (i_any (s_v 1)) (own := [("f", 6)]) (blkOk_by rfl) (by decide) (fun s H C cc fp => g_n 6 (c.blk).nd) (fun s H C cc fp => ts_nil) (fun s H C cc fp => s_cmp y_le (s_op y_mul (s_int) (s_v 2)) (s_op y_mul (s_v 6) (s_op y_add (s_v 6) (s_int))) rfl))) (a_nil))))))))))
abbrev s_is_at_two : Stmt := top 24
def b_is_at_two_1 : Sv := sRet (eAnd (e2 oIsNot (eV 1) (eC .non)) (eAnd (e2 oEq (e2 oIx (eV 1) (eC (.int 1))) (e1 uNeg (eC (.int 2)))) (eAnd (e2 oGt (e2 oIx (eV 0) (eC (.int 3))) (eC (.int 0))) (eCall d_can_be_in (aC (eV 0) (aN))))))
def b_is_at_two : Sv := sSeq (sAsg (gN 1) (eCall d_rays_in (aC (eV 0) (aN))))
    (b_is_at_two_1)
def d_is_at_two : Fn := fnP 2 b_is_at_two
theorem sc_is_at_two : FnScope ["numbers", "rays"] ["numbers"] (defScope s_is_at_two) := ⟨rfl, rfl, rfl, by decide +kernel, rfl, by decide +kernel, by decide +kernel⟩
theorem fn_is_at_two (F : Fun K "is_at_two" "is_at_two" s_is_at_two f fd)  (D_rays_in : Def P w K mg base 2 "rays_in" ["numbers"] (spP K cl 1 d_rays_in)) (D_can_be_in : Def P w K mg base 4 "can_be_in" ["numbers"] (spP K cl 1 d_can_be_in)) :
    FnG P w K mg base 5 f fd ["numbers"] (spP K cl 1 d_is_at_two) := by
  refine fn_P (N := ["numbers", "rays"]) F sc_is_at_two ?_
  rintro ⟨prog, w2, K2, mg2, base2, A, N, s0, H0, ⟨sc, lo, gl, ce, qu, fu, co, fr, bl⟩, outer, stack, ex, fn, calm, pn, xe⟩ e1 e2 e3 e4 e5 e6 e7 e8 e9 e10 E c tk hp
  dsimp only at e1 e2 e3 e4 e5 e6 e7 e8 e9 e10
  subst e1 e2 e3 e4 e5 e6 e7 e8 e9 e10
  exact ss_cons (s_set (j := 1) c.nd (q_call D_rays_in (by decide) c tk (a_cons (s_v 0) (a_nil)) (al_cons (al_nil))))
    (ss_one (s_ret (s_and (s_cmp y_isNot (s_v 1) (s_non) rfl) (s_and (s_cmp (y_eq c) (s_ix c (s_v 1) (s_int) (fun _ _ => rfl)) (s_neg (s_int)) rfl) (s_and (s_cmp y_gt (s_ix c (s_v 0) (s_int) (fun _ _ => rfl)) (s_int) rfl) (s_one (q_call D_can_be_in (by decide) c tk (a_cons (s_v 0) (a_nil)) (al_cons (al_nil)))))))))
abbrev s_kind_in_told : Stmt := top 25
def b_kind_in_told_5 : Sv := sRet (eTup (aC (eC (.str "eight")) (aC (e2 oAdd (e2 oIx (eCall d_times_in (aC (eV 0) (aN))) (eC (.int 0))) (eC (.int 1))) (aN))))
def b_kind_in_told_4 : Sv := sSeq (sIf (tAnd (tB (e2 oGt (eV 5) (eC (.int 2)))) (tB (e2 oEq (eV 0) (eTup (aC (e2 oMul (eV 5) (eV 5)) (aC (e2 oMul (eC (.int 2)) (e2 oSub (eV 5) (eC (.int 1)))) (aC (e2 oSub (eV 5) (eC (.int 2))) (aC (eC (.int 2)) (aN))))))))) (sRet (eTup (aC (eC (.str "squares")) (aC (eV 5) (aN))))) (sPass))
    (b_kind_in_told_5)
def b_kind_in_told_3 : Sv := sSeq (sIf (tAnd (tB (e2 oGt (eV 5) (eC (.int 4)))) (tB (e2 oEq (eV 0) (eTup (aC (e2 oDiv (e2 oMul (eV 5) (e2 oSub (eV 5) (eC (.int 1)))) (eC (.int 2))) (aC (e2 oMul (eC (.int 2)) (e2 oSub (eV 5) (eC (.int 2)))) (aC (e2 oSub (eV 5) (eC (.int 2))) (aC (eC (.int 4)) (aN))))))))) (sRet (eTup (aC (eC (.str "full")) (aC (eV 5) (aN))))) (sPass))
    (b_kind_in_told_4)
def b_kind_in_told_2 : Sv := sSeq (sAsg (gN 5) (e2 oAdd (eV 3) (eC (.int 2))))
    (b_kind_in_told_3)
def b_kind_in_told_1 : Sv := sSeq (sIf (tAnd (tB (e2 oEq (eV 2) (eV 4))) (tAnd (tB (e2 oEq (eV 1) (e2 oAdd (eV 2) (eC (.int 2))))) (tB (e2 oEq (e2 oMod (eV 1) (eC (.int 2))) (eC (.int 0)))))) (sRet (eTup (aC (eC (.str "pairs")) (aC (e2 oDiv (eV 1) (eC (.int 2))) (aN))))) (sPass))
    (b_kind_in_told_2)
def b_kind_in_told : Sv := sSeq (sAsg (gT [gN 1, gN 2, gN 3, gN 4]) (eV 0))
    (b_kind_in_told_1)
def d_kind_in_told : Fn := fnP 6 b_kind_in_told
theorem sc_kind_in_told : FnScope ["numbers", "n", "k", "l", "m", "a"] ["numbers"] (defScope s_kind_in_told) := ⟨rfl, rfl, rfl, by decide +kernel, rfl, by decide +kernel, by decide +kernel⟩
theorem fn_kind_in_told (F : Fun K "kind_in_told" "kind_in_told" s_kind_in_told f fd)  (D_times_in : Def P w K mg base 3 "times_in" ["numbers"] (spP K cl 1 d_times_in)) :
    FnG P w K mg base 4 f fd ["numbers"] (spP K cl 1 d_kind_in_told) := by
  refine fn_P (N := ["numbers", "n", "k", "l", "m", "a"]) F sc_kind_in_told ?_
  rintro ⟨prog, w2, K2, mg2, base2, A, N, s0, H0, ⟨sc, lo, gl, ce, qu, fu, co, fr, bl⟩, outer, stack, ex, fn, calm, pn, xe⟩ e1 e2 e3 e4 e5 e6 e7 e8 e9 e10 E c tk hp
  dsimp only at e1 e2 e3 e4 e5 e6 e7 e8 e9 e10
  subst e1 e2 e3 e4 e5 e6 e7 e8 e9 e10
  exact ss_cons (s_asg (s_v 0) (g_tup c.calm (gs_cons (g_n 1 c.nd) (gs_cons (g_n 2 c.nd) (gs_cons (g_n 3 c.nd) (gs_cons (g_n 4 c.nd) (gs_nil)))))))
    (ss_cons (s_ifS (t_w (w_and (t_cmp (y_eq c) (s_v 2) (s_v 4) rfl) (w_and (t_cmp (y_eq c) (s_v 1) (s_op y_add (s_v 2) (s_int)) rfl) (w_and1 (t_cmp (y_eq c) (s_op y_mod (s_v 1) (s_int)) (s_int) rfl))))) (ss_one (s_ret (s_tup (a_cons (s_str) (a_cons (s_op y_div (s_v 1) (s_int)) (a_nil)))))) (ss_nil))
    (ss_cons (s_set (j := 5) c.nd (s_op y_add (s_v 3) (s_int)))
    (ss_cons (s_ifS (t_w (w_and (t_cmp y_gt (s_v 5) (s_int) rfl) (w_and1 (t_cmp (y_eq c) (s_v 0) (s_tup (a_cons (s_op y_div (s_op y_mul (s_v 5) (s_op y_sub (s_v 5) (s_int))) (s_int)) (a_cons (s_op y_mul (s_int) (s_op y_sub (s_v 5) (s_int))) (a_cons (s_op y_sub (s_v 5) (s_int)) (a_cons (s_int) (a_nil)))))) rfl)))) (ss_one (s_ret (s_tup (a_cons (s_str) (a_cons (s_v 5) (a_nil)))))) (ss_nil))
    (ss_cons (s_ifS (t_w (w_and (t_cmp y_gt (s_v 5) (s_int) rfl) (w_and1 (t_cmp (y_eq c) (s_v 0) (s_tup (a_cons (s_op y_mul (s_v 5) (s_v 5)) (a_cons (s_op y_mul (s_int) (s_op y_sub (s_v 5) (s_int))) (a_cons (s_op y_sub (s_v 5) (s_int)) (a_cons (s_int) (a_nil)))))) rfl)))) (ss_one (s_ret (s_tup (a_cons (s_str) (a_cons (s_v 5) (a_nil)))))) (ss_nil))
    (ss_one (s_ret (s_tup (a_cons (s_str) (a_cons (s_op y_add (s_ix c (q_call D_times_in (by decide) c tk (a_cons (s_v 0) (a_nil)) (al_cons (al_nil))) (s_int) (fun _ _ => rfl)) (s_int)) (a_nil))))))))))
abbrev s_kind_at_two : Stmt := top 26
def b_kind_at_two_1 : Sv := sRet (eIf (tT (eCall d_is_at_two (aC (eV 0) (aN)))) (eCall d_kind_in_told (aC (eV 0) (aN))) (eC .non))
def b_kind_at_two : Sv := sSeq (sExpr (eCall d_need_numbers (aC (eV 0) (aN))))
    (b_kind_at_two_1)
def d_kind_at_two : Fn := fnP 1 b_kind_at_two
theorem sc_kind_at_two : FnScope ["numbers"] ["numbers"] (defScope s_kind_at_two) := ⟨rfl, rfl, rfl, by decide +kernel, rfl, by decide +kernel, by decide +kernel⟩
theorem fn_kind_at_two (F : Fun K "kind_at_two" "kind_at_two" s_kind_at_two f fd)  (D_need_numbers : Def P w K mg base 4 "need_numbers" ["numbers"] (spP K cl 1 d_need_numbers)) (D_is_at_two : Def P w K mg base 5 "is_at_two" ["numbers"] (spP K cl 1 d_is_at_two)) (D_kind_in_told : Def P w K mg base 4 "kind_in_told" ["numbers"] (spP K cl 1 d_kind_in_told)) :
    FnG P w K mg base 6 f fd ["numbers"] (spP K cl 1 d_kind_at_two) := by
  refine fn_P (N := ["numbers"]) F sc_kind_at_two ?_
  rintro ⟨prog, w2, K2, mg2, base2, A, N, s0, H0, ⟨sc, lo, gl, ce, qu, fu, co, fr, bl⟩, outer, stack, ex, fn, calm, pn, xe⟩ e1 e2 e3 e4 e5 e6 e7 e8 e9 e10 E c tk hp
  dsimp only at e1 e2 e3 e4 e5 e6 e7 e8 e9 e10
  subst e1 e2 e3 e4 e5 e6 e7 e8 e9 e10
  exact ss_cons (s_expr (q_call D_need_numbers (by decide) c tk (a_cons (s_v 0) (a_nil)) (al_cons (al_nil))))
    (ss_one (s_ret (s_if (t_tr (q_call D_is_at_two (by decide) c tk (a_cons (s_v 0) (a_nil)) (al_cons (al_nil)))) (q_call D_kind_in_told (by decide) c tk (a_cons (s_v 0) (a_nil)) (al_cons (al_nil))) (s_non))))
abbrev s_can_be : Stmt := top 20
def b_can_be_1 : Sv := sRet (eCall d_can_be_in (aC (eV 0) (aN)))
def b_can_be : Sv := sSeq (sExpr (eCall d_need_numbers (aC (eV 0) (aN))))
    (b_can_be_1)
def d_can_be : Fn := fnP 1 b_can_be
theorem sc_can_be : FnScope ["numbers"] ["numbers"] (defScope s_can_be) := ⟨rfl, rfl, rfl, by decide +kernel, rfl, by decide +kernel, by decide +kernel⟩
theorem fn_can_be (F : Fun K "can_be" "can_be" s_can_be f fd)  (D_need_numbers : Def P w K mg base 4 "need_numbers" ["numbers"] (spP K cl 1 d_need_numbers)) (D_can_be_in : Def P w K mg base 4 "can_be_in" ["numbers"] (spP K cl 1 d_can_be_in)) :
    FnG P w K mg base 5 f fd ["numbers"] (spP K cl 1 d_can_be) := by
  refine fn_P (N := ["numbers"]) F sc_can_be ?_
  rintro ⟨prog, w2, K2, mg2, base2, A, N, s0, H0, ⟨sc, lo, gl, ce, qu, fu, co, fr, bl⟩, outer, stack, ex, fn, calm, pn, xe⟩ e1 e2 e3 e4 e5 e6 e7 e8 e9 e10 E c tk hp
  dsimp only at e1 e2 e3 e4 e5 e6 e7 e8 e9 e10
  subst e1 e2 e3 e4 e5 e6 e7 e8 e9 e10
  exact ss_cons (s_expr (q_call D_need_numbers (by decide) c tk (a_cons (s_v 0) (a_nil)) (al_cons (al_nil))))
    (ss_one (s_ret (q_call D_can_be_in (by decide) c tk (a_cons (s_v 0) (a_nil)) (al_cons (al_nil)))))
abbrev s_need_count : Stmt := top 8
def b_need_count : Sv := sIf (tNot (tT (eCall d_is_count (aC (eV 1) (aN))))) (sNever) (sPass)
def d_need_count : Fn := fnP 2 b_need_count
theorem sc_need_count : FnScope ["what", "value"] ["what", "value"] (defScope s_need_count) := ⟨rfl, rfl, rfl, by decide +kernel, rfl, by decide +kernel, by decide +kernel⟩
theorem fn_need_count (F : Fun K "need_count" "need_count" s_need_count f fd)  (D_is_count : Def P w K mg base 2 "is_count" ["value"] (spP K cl 1 d_is_count)) :
    FnG P w K mg base 3 f fd ["what", "value"] (spP K cl 2 d_need_count) := by
  refine fn_P (N := ["what", "value"]) F sc_need_count ?_
  rintro ⟨prog, w2, K2, mg2, base2, A, N, s0, H0, ⟨sc, lo, gl, ce, qu, fu, co, fr, bl⟩, outer, stack, ex, fn, calm, pn, xe⟩ e1 e2 e3 e4 e5 e6 e7 e8 e9 e10 E c tk hp
  dsimp only at e1 e2 e3 e4 e5 e6 e7 e8 e9 e10
  subst e1 e2 e3 e4 e5 e6 e7 e8 e9 e10
  exact ss_one (s_ifS (t_not (t_tr (q_call D_is_count (by decide) c tk (a_cons (s_v 1) (a_nil)) (al_cons (al_nil))))) (ss_one (s_never)) (ss_nil))
abbrev s_at_two_in : Stmt := top 22
def b_at_two_in_3 : Sv := sRet (eIf (tT (eCall d_are_numbers (aC (eV 4) (aN)))) (eV 4) (eC .non))
def b_at_two_in_2 : Sv := sSeq (sAsg (gN 4) (eTup (aC (e2 oAdd (e2 oAdd (eC (.int 1)) (eV 0)) (e2 oDiv (e2 oMul (eV 0) (e2 oAdd (eV 1) (eC (.int 1)))) (eV 3))) (aC (eV 0) (aC (eV 2) (aC (eV 3) (aN)))))))
    (b_at_two_in_3)
def b_at_two_in_1 : Sv := sSeq (sIf (tOr (tB (e2 oLt (eV 2) (eC (.int 0)))) (tOr (tB (e2 oLt (eV 3) (eC (.int 1)))) (tT (e2 oMod (e2 oMul (eV 0) (e2 oAdd (eV 1) (eC (.int 1)))) (eV 3))))) (sRet (eC .non)) (sPass))
    (b_at_two_in_2)
def b_at_two_in : Sv := sSeq (sPar 2 3 (aC (e2 oSub (e2 oSub (eV 0) (eV 1)) (eC (.int 2))) (aC (e2 oSub (eV 0) (e2 oMul (eC (.int 2)) (eV 1))) aN)))
    (b_at_two_in_1)
def d_at_two_in : Fn := fnP 5 b_at_two_in
theorem sc_at_two_in : FnScope ["k", "r", "l", "m", "numbers"] ["k", "r"] (defScope s_at_two_in) := ⟨rfl, rfl, rfl, by decide +kernel, rfl, by decide +kernel, by decide +kernel⟩
theorem fn_at_two_in (F : Fun K "at_two_in" "at_two_in" s_at_two_in f fd)  (D_are_numbers : Def P w K mg base 3 "are_numbers" ["value"] (spP K cl 1 d_are_numbers)) :
    FnG P w K mg base 4 f fd ["k", "r"] (spP K cl 2 d_at_two_in) := by
  refine fn_P (N := ["k", "r", "l", "m", "numbers"]) F sc_at_two_in ?_
  rintro ⟨prog, w2, K2, mg2, base2, A, N, s0, H0, ⟨sc, lo, gl, ce, qu, fu, co, fr, bl⟩, outer, stack, ex, fn, calm, pn, xe⟩ e1 e2 e3 e4 e5 e6 e7 e8 e9 e10 E c tk hp
  dsimp only at e1 e2 e3 e4 e5 e6 e7 e8 e9 e10
  subst e1 e2 e3 e4 e5 e6 e7 e8 e9 e10
  exact ss_cons (s_par (j := 2) (l := 3) c.calm c.nd (a_cons (s_op y_sub (s_op y_sub (s_v 0) (s_v 1)) (s_int)) (a_cons (s_op y_sub (s_v 0) (s_op y_mul (s_int) (s_v 1))) a_nil)))
    (ss_cons (s_ifS (t_w (w_or (t_cmp (y_lt c) (s_v 2) (s_int) rfl) (w_or (t_cmp (y_lt c) (s_v 3) (s_int) rfl) (w_or1 (t_tr (s_op y_mod (s_op y_mul (s_v 0) (s_op y_add (s_v 1) (s_int))) (s_v 3))))))) (ss_one (s_ret (s_non))) (ss_nil))
    (ss_cons (s_set (j := 4) c.nd (s_tup (a_cons (s_op y_add (s_op y_add (s_int) (s_v 0)) (s_op y_div (s_op y_mul (s_v 0) (s_op y_add (s_v 1) (s_int))) (s_v 3))) (a_cons (s_v 0) (a_cons (s_v 2) (a_cons (s_v 3) (a_nil)))))))
    (ss_one (s_ret (s_if (t_tr (q_call D_are_numbers (by decide) c tk (a_cons (s_v 4) (a_nil)) (al_cons (al_nil)))) (s_v 4) (s_non))))))
abbrev s_few_at_two : Stmt := top 27
def b_few_at_two_l2_1 : Sv := sIf (tAnd (tB (e2 oIsNot (eV 4) (eC .non))) (tAnd (tB (e2 oLe (e2 oIx (eV 4) (eC (.int 0))) (eV 0))) (tAnd (tT (eCall d_is_at_two (aC (eV 4) (aN)))) (tB (e2 oLe (e2 oIx (eCall d_times_in (aC (eV 4) (aN))) (eC (.int 0))) (eC (.int 7))))))) (sApp (eV 1) (eV 4)) (sPass)
def b_few_at_two_l2 : Sv := sSeq (sAsg (gN 4) (eCall d_at_two_in (aC (eV 2) (aC (eV 3) (aN)))))
    (b_few_at_two_l2_1)
def b_few_at_two_l1 : Sv := sFor (iR1 (aC (e2 oAdd (e2 oDiv (eV 2) (eC (.int 2))) (eC (.int 1))) (aN))) (gN 3) (b_few_at_two_l2)
def b_few_at_two_3 : Sv := sRet (eB bTuple (aC (eFrz (lB mSorted (aC (eV 1) (aN)))) (aN)))
def b_few_at_two_2 : Sv := sSeq (sFor (iR2 (aC (eC (.int 1)) (aC (eV 0) (aN)))) (gN 2) (b_few_at_two_l1))
    (b_few_at_two_3)
def b_few_at_two_1 : Sv := sSeq (sAsg (gN 1) (eMut (lLst (aN))))
    (b_few_at_two_2)
def b_few_at_two : Sv := sSeq (sExpr (eCall d_need_count (aC (eC (.str "most")) (aC (eV 0) (aN)))))
    (b_few_at_two_1)
def d_few_at_two : Fn := fnP 5 b_few_at_two
theorem sc_few_at_two : FnScope ["most", "found", "k", "r", "numbers"] ["most"] (defScope s_few_at_two) := ⟨rfl, rfl, rfl, by decide +kernel, rfl, by decide +kernel, by decide +kernel⟩
theorem fn_few_at_two (F : Fun K "few_at_two" "few_at_two" s_few_at_two f fd) (z_range : mg "range" = none) (z_sorted : mg "sorted" = none) (z_tuple : mg "tuple" = none) (D_need_count : Def P w K mg base 3 "need_count" ["what", "value"] (spP K cl 2 d_need_count)) (D_at_two_in : Def P w K mg base 4 "at_two_in" ["k", "r"] (spP K cl 2 d_at_two_in)) (D_is_at_two : Def P w K mg base 5 "is_at_two" ["numbers"] (spP K cl 1 d_is_at_two)) (D_times_in : Def P w K mg base 3 "times_in" ["numbers"] (spP K cl 1 d_times_in)) :
    FnG P w K mg base 6 f fd ["most"] (spP K cl 1 d_few_at_two) := by
  refine fn_P (N := ["most", "found", "k", "r", "numbers"]) F sc_few_at_two ?_
  rintro ⟨prog, w2, K2, mg2, base2, A, N, s0, H0, ⟨sc, lo, gl, ce, qu, fu, co, fr, bl⟩, outer, stack, ex, fn, calm, pn, xe⟩ e1 e2 e3 e4 e5 e6 e7 e8 e9 e10 E c tk hp
  dsimp only at e1 e2 e3 e4 e5 e6 e7 e8 e9 e10
  subst e1 e2 e3 e4 e5 e6 e7 e8 e9 e10
  exact ss_cons (s_expr (q_call D_need_count (by decide) c tk (a_cons (s_str) (a_cons (s_v 0) (a_nil))) (al_cons (al_cons (al_nil)))))
    (ss_cons (s_set (j := 1) c.nd (s_mut (l_lst (a_nil))))
    (ss_cons (s_for hp c.calm (i_r2 rfl z_range (a_cons (s_int) (a_cons (s_v 0) (a_nil)))) (g_n 2 c.nd) (ss_one (s_for hp c.calm (i_r1 rfl z_range (a_cons (s_op y_add (s_op y_div (s_v 2) (s_int)) (s_int)) (a_nil))) (g_n 3 c.nd) (ss_cons (s_set (j := 4) c.nd (q_call D_at_two_in (by decide) c tk (a_cons (s_v 2) (a_cons (s_v 3) (a_nil))) (al_cons (al_cons (al_nil)))))
    (ss_one (s_ifS (t_w (w_and (t_cmp y_isNot (s_v 4) (s_non) rfl) (w_and (t_cmp y_le (s_ix c (s_v 4) (s_int) (fun _ _ => rfl)) (s_v 0) rfl) (w_and (t_tr (q_call D_is_at_two (by decide) c tk (a_cons (s_v 4) (a_nil)) (al_cons (al_nil)))) (w_and1 (t_cmp y_le (s_ix c (q_call D_times_in (by decide) c tk (a_cons (s_v 4) (a_nil)) (al_cons (al_nil))) (s_int) (fun _ _ => rfl)) (s_int) rfl)))))) (ss_one (s_app (s_v 1) (s_v 4) (fun h1 h2 => pe_bm PySem.F.plainAttrs_list PySem.F.slot_list_append PySem.F.type_list_append mt_append h1 h2))) (ss_nil)))))))
    (ss_one (s_ret (s_bT c_tuple rfl z_tuple rfl (a_cons (s_frz (l_b (c_sorted c) rfl z_sorted rfl (a_cons (s_v 1) (a_nil)))) (a_nil)))))))
abbrev s_numbers_at_two : Stmt := top 23
def b_numbers_at_two_2 : Sv := sRet (eCall d_at_two_in (aC (eV 0) (aC (eV 1) (aN))))
def b_numbers_at_two_1 : Sv := sSeq (sExpr (eCall d_need_count (aC (eC (.str "r")) (aC (eV 1) (aN)))))
    (b_numbers_at_two_2)
def b_numbers_at_two : Sv := sSeq (sExpr (eCall d_need_count (aC (eC (.str "k")) (aC (eV 0) (aN)))))
    (b_numbers_at_two_1)
def d_numbers_at_two : Fn := fnP 2 b_numbers_at_two
theorem sc_numbers_at_two : FnScope ["k", "r"] ["k", "r"] (defScope s_numbers_at_two) := ⟨rfl, rfl, rfl, by decide +kernel, rfl, by decide +kernel, by decide +kernel⟩
theorem fn_numbers_at_two (F : Fun K "numbers_at_two" "numbers_at_two" s_numbers_at_two f fd)  (D_need_count : Def P w K mg base 3 "need_count" ["what", "value"] (spP K cl 2 d_need_count)) (D_at_two_in : Def P w K mg base 4 "at_two_in" ["k", "r"] (spP K cl 2 d_at_two_in)) :
    FnG P w K mg base 5 f fd ["k", "r"] (spP K cl 2 d_numbers_at_two) := by
  refine fn_P (N := ["k", "r"]) F sc_numbers_at_two ?_
  rintro ⟨prog, w2, K2, mg2, base2, A, N, s0, H0, ⟨sc, lo, gl, ce, qu, fu, co, fr, bl⟩, outer, stack, ex, fn, calm, pn, xe⟩ e1 e2 e3 e4 e5 e6 e7 e8 e9 e10 E c tk hp
  dsimp only at e1 e2 e3 e4 e5 e6 e7 e8 e9 e10
  subst e1 e2 e3 e4 e5 e6 e7 e8 e9 e10
  exact ss_cons (s_expr (q_call D_need_count (by decide) c tk (a_cons (s_str) (a_cons (s_v 0) (a_nil))) (al_cons (al_cons (al_nil)))))
    (ss_cons (s_expr (q_call D_need_count (by decide) c tk (a_cons (s_str) (a_cons (s_v 1) (a_nil))) (al_cons (al_cons (al_nil)))))
    (ss_one (s_ret (q_call D_at_two_in (by decide) c tk (a_cons (s_v 0) (a_cons (s_v 1) (a_nil))) (al_cons (al_cons (al_nil)))))))
abbrev s_other_rays : Stmt := top 16
def b_other_rays_1 : Sv := sRet (eCall d_rays_in (aC (eV 0) (aN)))
def b_other_rays : Sv := sSeq (sExpr (eCall d_need_numbers (aC (eV 0) (aN))))
    (b_other_rays_1)
def d_other_rays : Fn := fnP 1 b_other_rays
theorem sc_other_rays : FnScope ["numbers"] ["numbers"] (defScope s_other_rays) := ⟨rfl, rfl, rfl, by decide +kernel, rfl, by decide +kernel, by decide +kernel⟩
theorem fn_other_rays (F : Fun K "other_rays" "other_rays" s_other_rays f fd)  (D_need_numbers : Def P w K mg base 4 "need_numbers" ["numbers"] (spP K cl 1 d_need_numbers)) (D_rays_in : Def P w K mg base 2 "rays_in" ["numbers"] (spP K cl 1 d_rays_in)) :
    FnG P w K mg base 5 f fd ["numbers"] (spP K cl 1 d_other_rays) := by
  refine fn_P (N := ["numbers"]) F sc_other_rays ?_
  rintro ⟨prog, w2, K2, mg2, base2, A, N, s0, H0, ⟨sc, lo, gl, ce, qu, fu, co, fr, bl⟩, outer, stack, ex, fn, calm, pn, xe⟩ e1 e2 e3 e4 e5 e6 e7 e8 e9 e10 E c tk hp
  dsimp only at e1 e2 e3 e4 e5 e6 e7 e8 e9 e10
  subst e1 e2 e3 e4 e5 e6 e7 e8 e9 e10
  exact ss_cons (s_expr (q_call D_need_numbers (by decide) c tk (a_cons (s_v 0) (a_nil)) (al_cons (al_nil))))
    (ss_one (s_ret (q_call D_rays_in (by decide) c tk (a_cons (s_v 0) (a_nil)) (al_cons (al_nil)))))
abbrev s_ray_times : Stmt := top 18
def b_ray_times_2 : Sv := sRet (eCall d_times_in (aC (eV 0) (aN)))
def b_ray_times_1 : Sv := sSeq (sIf (tNot (tT (eCall d_balanced_in (aC (eV 0) (aN))))) (sNever) (sPass))
    (b_ray_times_2)
def b_ray_times : Sv := sSeq (sExpr (eCall d_need_numbers (aC (eV 0) (aN))))
    (b_ray_times_1)
def d_ray_times : Fn := fnP 1 b_ray_times
theorem sc_ray_times : FnScope ["numbers"] ["numbers"] (defScope s_ray_times) := ⟨rfl, rfl, rfl, by decide +kernel, rfl, by decide +kernel, by decide +kernel⟩
theorem fn_ray_times (F : Fun K "ray_times" "ray_times" s_ray_times f fd)  (D_need_numbers : Def P w K mg base 4 "need_numbers" ["numbers"] (spP K cl 1 d_need_numbers)) (D_balanced_in : Def P w K mg base 1 "balanced_in" ["numbers"] (spP K cl 1 d_balanced_in)) (D_times_in : Def P w K mg base 3 "times_in" ["numbers"] (spP K cl 1 d_times_in)) :
    FnG P w K mg base 5 f fd ["numbers"] (spP K cl 1 d_ray_times) := by
  refine fn_P (N := ["numbers"]) F sc_ray_times ?_
  rintro ⟨prog, w2, K2, mg2, base2, A, N, s0, H0, ⟨sc, lo, gl, ce, qu, fu, co, fr, bl⟩, outer, stack, ex, fn, calm, pn, xe⟩ e1 e2 e3 e4 e5 e6 e7 e8 e9 e10 E c tk hp
  dsimp only at e1 e2 e3 e4 e5 e6 e7 e8 e9 e10
  subst e1 e2 e3 e4 e5 e6 e7 e8 e9 e10
  exact ss_cons (s_expr (q_call D_need_numbers (by decide) c tk (a_cons (s_v 0) (a_nil)) (al_cons (al_nil))))
    (ss_cons (s_ifS (t_not (t_tr (q_call D_balanced_in (by decide) c tk (a_cons (s_v 0) (a_nil)) (al_cons (al_nil))))) (ss_one (s_never)) (ss_nil))
    (ss_one (s_ret (q_call D_times_in (by decide) c tk (a_cons (s_v 0) (a_nil)) (al_cons (al_nil))))))
abbrev s_u_law_kind : Stmt := top 32
def b_u_law_kind_l1 : Sv := sIf (tB (e2 oEq (eV 0) (eTup (aC (e2 oDiv (e2 oMul (eV 5) (e2 oSub (eV 5) (eC (.int 1)))) (eC (.int 2))) (aC (e2 oMul (eC (.int 2)) (e2 oSub (eV 5) (eC (.int 2)))) (aC (e2 oSub (eV 5) (eC (.int 2))) (aC (eC (.int 4)) (aN)))))))) (sRet (eTup (aC (eC (.str "full")) (aC (eV 5) (aN))))) (sPass)
def b_u_law_kind_l2 : Sv := sIf (tB (e2 oEq (eV 0) (eTup (aC (e2 oMul (eV 5) (eV 5)) (aC (e2 oMul (eC (.int 2)) (e2 oSub (eV 5) (eC (.int 1)))) (aC (e2 oSub (eV 5) (eC (.int 2))) (aC (eC (.int 2)) (aN)))))))) (sRet (eTup (aC (eC (.str "squares")) (aC (eV 5) (aN))))) (sPass)
def b_u_law_kind_4 : Sv := sRet (eTup (aC (eC (.str "eight")) (aC (e2 oAdd (e2 oIx (eCall d_ray_times (aC (eV 0) (aN))) (eC (.int 0))) (eC (.int 1))) (aN))))
def b_u_law_kind_3 : Sv := sSeq (sFor (iR2 (aC (eC (.int 3)) (aC (eC (.int 40)) (aN)))) (gN 5) (b_u_law_kind_l2))
    (b_u_law_kind_4)
def b_u_law_kind_2 : Sv := sSeq (sFor (iR2 (aC (eC (.int 5)) (aC (eC (.int 40)) (aN)))) (gN 5) (b_u_law_kind_l1))
    (b_u_law_kind_3)
def b_u_law_kind_1 : Sv := sSeq (sIf (tB (e2 oEq (eV 2) (eV 4))) (sRet (eIf (tAnd (tB (e2 oEq (eV 1) (e2 oAdd (eV 2) (eC (.int 2))))) (tB (e2 oEq (e2 oMod (eV 1) (eC (.int 2))) (eC (.int 0))))) (eTup (aC (eC (.str "pairs")) (aC (e2 oDiv (eV 1) (eC (.int 2))) (aN)))) (eC .non))) (sPass))
    (b_u_law_kind_2)
def b_u_law_kind : Sv := sSeq (sAsg (gT [gN 1, gN 2, gN 3, gN 4]) (eV 0))
    (b_u_law_kind_1)
def d_u_law_kind : Fn := fnP 6 b_u_law_kind
theorem sc_u_law_kind : FnScope ["numbers", "n", "k", "l", "m", "a"] ["numbers"] (defScope s_u_law_kind) := ⟨rfl, rfl, rfl, by decide +kernel, rfl, by decide +kernel, by decide +kernel⟩
theorem fn_u_law_kind (F : Fun K "_law_kind" "_law_kind" s_u_law_kind f fd) (z_range : mg "range" = none) (D_ray_times : Def P w K mg base 5 "ray_times" ["numbers"] (spP K cl 1 d_ray_times)) :
    FnG P w K mg base 6 f fd ["numbers"] (spP K cl 1 d_u_law_kind) := by
  refine fn_P (N := ["numbers", "n", "k", "l", "m", "a"]) F sc_u_law_kind ?_
  rintro ⟨prog, w2, K2, mg2, base2, A, N, s0, H0, ⟨sc, lo, gl, ce, qu, fu, co, fr, bl⟩, outer, stack, ex, fn, calm, pn, xe⟩ e1 e2 e3 e4 e5 e6 e7 e8 e9 e10 E c tk hp
  dsimp only at e1 e2 e3 e4 e5 e6 e7 e8 e9 e10
  subst e1 e2 e3 e4 e5 e6 e7 e8 e9 e10
  exact ss_cons (s_asg (s_v 0) (g_tup c.calm (gs_cons (g_n 1 c.nd) (gs_cons (g_n 2 c.nd) (gs_cons (g_n 3 c.nd) (gs_cons (g_n 4 c.nd) (gs_nil)))))))
    (ss_cons (s_ifS (t_cmp (y_eq c) (s_v 2) (s_v 4) rfl) (ss_one (s_ret (s_if (t_w (w_and (t_cmp (y_eq c) (s_v 1) (s_op y_add (s_v 2) (s_int)) rfl) (w_and1 (t_cmp (y_eq c) (s_op y_mod (s_v 1) (s_int)) (s_int) rfl)))) (s_tup (a_cons (s_str) (a_cons (s_op y_div (s_v 1) (s_int)) (a_nil)))) (s_non)))) (ss_nil))
    (ss_cons (s_for hp c.calm (i_r2 rfl z_range (a_cons (s_int) (a_cons (s_int) (a_nil)))) (g_n 5 c.nd) (ss_one (s_ifS (t_cmp (y_eq c) (s_v 0) (s_tup (a_cons (s_op y_div (s_op y_mul (s_v 5) (s_op y_sub (s_v 5) (s_int))) (s_int)) (a_cons (s_op y_mul (s_int) (s_op y_sub (s_v 5) (s_int))) (a_cons (s_op y_sub (s_v 5) (s_int)) (a_cons (s_int) (a_nil)))))) rfl) (ss_one (s_ret (s_tup (a_cons (s_str) (a_cons (s_v 5) (a_nil)))))) (ss_nil))))
    (ss_cons (s_for hp c.calm (i_r2 rfl z_range (a_cons (s_int) (a_cons (s_int) (a_nil)))) (g_n 5 c.nd) (ss_one (s_ifS (t_cmp (y_eq c) (s_v 0) (s_tup (a_cons (s_op y_mul (s_v 5) (s_v 5)) (a_cons (s_op y_mul (s_int) (s_op y_sub (s_v 5) (s_int))) (a_cons (s_op y_sub (s_v 5) (s_int)) (a_cons (s_int) (a_nil)))))) rfl) (ss_one (s_ret (s_tup (a_cons (s_str) (a_cons (s_v 5) (a_nil)))))) (ss_nil))))
    (ss_one (s_ret (s_tup (a_cons (s_str) (a_cons (s_op y_add (s_ix c (q_call D_ray_times (by decide) c tk (a_cons (s_v 0) (a_nil)) (al_cons (al_nil))) (s_int) (fun _ _ => rfl)) (s_int)) (a_nil)))))))))
abbrev s_law : Stmt := top 33
def b_law_l1_3 : Sv := sIf (tB (e2 oIsNot (eV 5) (eC .non))) (sSeq (sIf (tB (e2 oNe (eCall d_other_rays (aC (eV 5) (aN))) (eTup (aC (eV 4) (aC (e1 uNeg (eC (.int 2))) (aN)))))) (sRet (eC (.bl false))) (sPass))
    (sSeq (sAsg (gN 6) (eCall d_can_be (aC (eV 5) (aN))))
    (sIf (tB (e2 oNe (eB bRepr (aC (eCall d_kind_at_two (aC (eV 5) (aN))) (aN))) (eB bRepr (aC (eIf (tT (eV 6)) (eCall d_u_law_kind (aC (eV 5) (aN))) (eC .non)) (aN))))) (sRet (eC (.bl false))) (sPass)))) (sPass)
def b_law_l1_2 : Sv := sSeq (sIf (tB (e2 oNe (eB bRepr (aC (eCall d_numbers_at_two (aC (eV 3) (aC (eV 4) (aN)))) (aN))) (eB bRepr (aC (eV 5) (aN))))) (sRet (eC (.bl false))) (sPass))
    (b_law_l1_3)
def b_law_l1_1 : Sv := sSeq (sAsg (gN 5) (eCall d_u_law_at_two (aC (eV 3) (aC (eV 4) (aN)))))
    (b_law_l1_2)
def b_law_l1 : Sv := sSeq (sPar 3 4 (aC (eCall d_u_law_draw (aC (eV 1) (aC (eC (.int 30)) (aN)))) (aC (eCall d_u_law_draw (aC (eV 1) (aC (eC (.int 12)) (aN)))) aN)))
    (b_law_l1_1)
def b_law_l4 : Sv := sIf (tAnd (tB (e2 oEq (e2 oAdd (eC (.int 4)) (e2 oMul (eC (.int 2)) (e2 oSub (eV 10) (eV 11)))) (e2 oSub (eV 3) (eV 11)))) (tB (e2 oEq (e2 oMod (e2 oMul (eV 3) (e2 oSub (e2 oSub (eV 3) (eV 10)) (eC (.int 1)))) (eV 11)) (eC (.int 0))))) (sSeq (sAsg (gN 12) (eTup (aC (e2 oAdd (e2 oAdd (eC (.int 1)) (eV 3)) (e2 oDiv (e2 oMul (eV 3) (e2 oSub (e2 oSub (eV 3) (eV 10)) (eC (.int 1)))) (eV 11))) (aC (eV 3) (aC (eV 10) (aC (eV 11) (aN)))))))
    (sIf (tAnd (tB (eCh oLt oLe (e2 oAdd (eV 3) (eC (.int 1))) (e2 oIx (eV 12) (eC (.int 0))) (eV 8))) (tAnd (tT (eCall d_can_be (aC (eV 12) (aN)))) (tB (e2 oEq (e2 oIx (eCall d_other_rays (aC (eV 12) (aN))) (eC (.int 1))) (e1 uNeg (eC (.int 2))))))) (sAsg (gN 9) (e2 oAdd (eV 9) (eIf (tB (e2 oLt (e2 oIx (eCall d_ray_times (aC (eV 12) (aN))) (eC (.int 0))) (eC (.int 8)))) (eFrz (lLst (aC (eV 12) (aN)))) (eFrz (lLst (aN)))))) (sPass))) (sPass)
def b_law_l3 : Sv := sFor (iR2 (aC (eC (.int 1)) (aC (e2 oAdd (eV 3) (eC (.int 1))) (aN)))) (gN 11) (b_law_l4)
def b_law_l2 : Sv := sFor (iR1 (aC (eV 3) (aN))) (gN 10) (b_law_l3)
def b_law_13 : Sv := sRet (e2 oEq (eFrz (lB mList (aC (eCall d_few_at_two (aC (eV 8) (aN))) (aN)))) (eFrz (lB mSorted (aC (eV 9) (aN)))))
def b_law_12 : Sv := sSeq (sIf (tB (e2 oNe (eFrz (lB mList (aC (eCall d_few_at_two (aC (eV 8) (aN))) (aN)))) (eFrz (lComp (iA (eV 13)) (gN 14) (tB (e2 oLe (e2 oIx (eV 14) (eC (.int 0))) (eV 8))) (eV 14) [14])))) (sRet (eC (.bl false))) (sPass))
    (b_law_13)
def b_law_11 : Sv := sSeq (sAsg (gN 13) (e2 oAdd (eV 13) (eFrz (lLst (aC (eTup (aC (eC (.int 27)) (aC (eC (.int 16)) (aC (eC (.int 10)) (aC (eC (.int 8)) (aN)))))) (aC (eTup (aC (eC (.int 28)) (aC (eC (.int 12)) (aC (eC (.int 6)) (aC (eC (.int 4)) (aN)))))) (aN)))))))
    (b_law_12)
def b_law_10 : Sv := sSeq (sAsg (gN 13) (e2 oAdd (eV 13) (eFrz (lLst (aC (eTup (aC (eC (.int 12)) (aC (eC (.int 10)) (aC (eC (.int 8)) (aC (eC (.int 10)) (aN)))))) (aC (eTup (aC (eC (.int 14)) (aC (eC (.int 12)) (aC (eC (.int 10)) (aC (eC (.int 12)) (aN)))))) (aC (eTup (aC (eC (.int 15)) (aC (eC (.int 8)) (aC (eC (.int 4)) (aC (eC (.int 4)) (aN)))))) (aC (eTup (aC (eC (.int 16)) (aC (eC (.int 6)) (aC (eC (.int 2)) (aC (eC (.int 2)) (aN)))))) (aC (eTup (aC (eC (.int 16)) (aC (eC (.int 10)) (aC (eC (.int 6)) (aC (eC (.int 6)) (aN)))))) (aC (eTup (aC (eC (.int 21)) (aC (eC (.int 10)) (aC (eC (.int 5)) (aC (eC (.int 4)) (aN)))))) (aN)))))))))))
    (b_law_11)
def b_law_9 : Sv := sSeq (sAsg (gN 13) (eFrz (lLst (aC (eTup (aC (eC (.int 4)) (aC (eC (.int 2)) (aC (eC (.int 0)) (aC (eC (.int 2)) (aN)))))) (aC (eTup (aC (eC (.int 6)) (aC (eC (.int 4)) (aC (eC (.int 2)) (aC (eC (.int 4)) (aN)))))) (aC (eTup (aC (eC (.int 8)) (aC (eC (.int 6)) (aC (eC (.int 4)) (aC (eC (.int 6)) (aN)))))) (aC (eTup (aC (eC (.int 9)) (aC (eC (.int 4)) (aC (eC (.int 1)) (aC (eC (.int 2)) (aN)))))) (aC (eTup (aC (eC (.int 10)) (aC (eC (.int 3)) (aC (eC (.int 0)) (aC (eC (.int 1)) (aN)))))) (aC (eTup (aC (eC (.int 10)) (aC (eC (.int 6)) (aC (eC (.int 3)) (aC (eC (.int 4)) (aN)))))) (aC (eTup (aC (eC (.int 10)) (aC (eC (.int 8)) (aC (eC (.int 6)) (aC (eC (.int 8)) (aN)))))) (aN)))))))))))
    (b_law_10)
def b_law_8 : Sv := sSeq (sFor (iR2 (aC (eC (.int 1)) (aC (eV 8) (aN)))) (gN 3) (b_law_l2))
    (b_law_9)
def b_law_7 : Sv := sSeq (sAsg (gT [gN 8, gN 9]) (eTup (aC (e2 oAdd (eC (.int 4)) (eCall d_u_law_draw (aC (eV 1) (aC (eC (.int 37)) (aN))))) (aC (eFrz (lLst (aN))) (aN)))))
    (b_law_8)
def b_law_6 : Sv := sSeq (sIf (tB (e2 oNe (eFrz (lComp (iA (eFrz (lLst (aC (eTup (aC (eC (.int 5)) (aC (eC (.int 2)) (aC (eC (.int 0)) (aC (eC (.int 1)) (aN)))))) (aC (eTup (aC (eC (.int 6)) (aC (eC (.int 2)) (aC (eC (.int 1)) (aC (eC (.int 0)) (aN)))))) (aC (eTup (aC (eC (.int 16)) (aC (eC (.int 5)) (aC (eC (.int 0)) (aC (eC (.int 2)) (aN)))))) (aC (eTup (aC (eC (.int 28)) (aC (eC (.int 18)) (aC (eC (.int 12)) (aC (eC (.int 10)) (aN)))))) (aN)))))))) (gN 14) (tYes) (eCall d_kind_at_two (aC (eV 14) (aN))) [14])) (eFrz (lMul (lLst (aC (eC .non) (aN))) (eC (.int 4)))))) (sRet (eC (.bl false))) (sPass))
    (b_law_7)
def b_law_5 : Sv := sSeq (sIf (tB (e2 oNe (eCall d_kind_at_two (aC (eTup (aC (e2 oMul (eC (.int 2)) (eV 7)) (aC (e2 oSub (e2 oMul (eC (.int 2)) (eV 7)) (eC (.int 2))) (aC (e2 oSub (e2 oMul (eC (.int 2)) (eV 7)) (eC (.int 4))) (aC (e2 oSub (e2 oMul (eC (.int 2)) (eV 7)) (eC (.int 2))) (aN)))))) (aN))) (eTup (aC (eC (.str "pairs")) (aC (eV 7) (aN)))))) (sRet (eC (.bl false))) (sPass))
    (b_law_6)
def b_law_4 : Sv := sSeq (sIf (tB (e2 oNe (eCall d_kind_at_two (aC (eTup (aC (e2 oMul (eV 7) (eV 7)) (aC (e2 oMul (eC (.int 2)) (e2 oSub (eV 7) (eC (.int 1)))) (aC (e2 oSub (eV 7) (eC (.int 2))) (aC (eC (.int 2)) (aN)))))) (aN))) (eTup (aC (eC (.str "squares")) (aC (eV 7) (aN)))))) (sRet (eC (.bl false))) (sPass))
    (b_law_5)
def b_law_3 : Sv := sSeq (sIf (tAnd (tB (e2 oGt (eV 7) (eC (.int 4)))) (tB (e2 oNe (eCall d_kind_at_two (aC (eTup (aC (e2 oDiv (e2 oMul (eV 7) (e2 oSub (eV 7) (eC (.int 1)))) (eC (.int 2))) (aC (e2 oMul (eC (.int 2)) (e2 oSub (eV 7) (eC (.int 2)))) (aC (e2 oSub (eV 7) (eC (.int 2))) (aC (eC (.int 4)) (aN)))))) (aN))) (eTup (aC (eC (.str "full")) (aC (eV 7) (aN))))))) (sRet (eC (.bl false))) (sPass))
    (b_law_4)
def b_law_2 : Sv := sSeq (sAsg (gN 7) (e2 oAdd (eC (.int 3)) (eCall d_u_law_draw (aC (eV 1) (aC (eC (.int 20)) (aN))))))
    (b_law_3)
def b_law_1 : Sv := sSeq (sFor (iR1 (aC (eC (.int 10)) (aN))) (gN 2) (b_law_l1))
    (b_law_2)
def b_law : Sv := sSeq (sAsg (gN 1) (eCall d_u_law_pen (aC (eV 0) (aN))))
    (b_law_1)
def d_law : Fn := fnP 15 b_law
theorem sc_law : FnScope ["script", "pen", "lap", "k", "r", "due", "right", "a", "most", "found", "l", "m", "numbers", "told", "one"] ["script"] (defScope s_law) := ⟨rfl, rfl, rfl, by decide +kernel, rfl, by decide +kernel, by decide +kernel⟩
theorem fn_law (F : Fun K "law" "law" s_law f fd) (z_range : mg "range" = none) (z_repr : mg "repr" = none) (z_list : mg "list" = none) (z_sorted : mg "sorted" = none) (D_u_law_pen : Def P w K mg base 1 "_law_pen" ["script"] (spP K cl 1 d_u_law_pen)) (D_u_law_draw : Def P w K mg base 1 "_law_draw" ["pen", "many"] (spP K cl 2 d_u_law_draw)) (D_u_law_at_two : Def P w K mg base 1 "_law_at_two" ["k", "r"] (spP K cl 2 d_u_law_at_two)) (D_numbers_at_two : Def P w K mg base 5 "numbers_at_two" ["k", "r"] (spP K cl 2 d_numbers_at_two)) (D_other_rays : Def P w K mg base 5 "other_rays" ["numbers"] (spP K cl 1 d_other_rays)) (D_can_be : Def P w K mg base 5 "can_be" ["numbers"] (spP K cl 1 d_can_be)) (D_kind_at_two : Def P w K mg base 6 "kind_at_two" ["numbers"] (spP K cl 1 d_kind_at_two)) (D_u_law_kind : Def P w K mg base 6 "_law_kind" ["numbers"] (spP K cl 1 d_u_law_kind)) (D_ray_times : Def P w K mg base 5 "ray_times" ["numbers"] (spP K cl 1 d_ray_times)) (D_few_at_two : Def P w K mg base 6 "few_at_two" ["most"] (spP K cl 1 d_few_at_two)) :
    FnG P w K mg base 7 f fd ["script"] (spP K cl 1 d_law) := by
  refine fn_P (N := ["script", "pen", "lap", "k", "r", "due", "right", "a", "most", "found", "l", "m", "numbers", "told", "one"]) F sc_law ?_
  rintro ⟨prog, w2, K2, mg2, base2, A, N, s0, H0, ⟨sc, lo, gl, ce, qu, fu, co, fr, bl⟩, outer, stack, ex, fn, calm, pn, xe⟩ e1 e2 e3 e4 e5 e6 e7 e8 e9 e10 E c tk hp
  dsimp only at e1 e2 e3 e4 e5 e6 e7 e8 e9 e10
  subst e1 e2 e3 e4 e5 e6 e7 e8 e9 e10
  exact ss_cons (s_set (j := 1) c.nd (q_call D_u_law_pen (by decide) c tk (a_cons (s_v 0) (a_nil)) (al_cons (al_nil))))
    (ss_cons (s_for hp c.calm (i_r1 rfl z_range (a_cons (s_int) (a_nil))) (g_n 2 c.nd) (ss_cons (s_par (j := 3) (l := 4) c.calm c.nd (a_cons (q_call D_u_law_draw (by decide) c tk (a_cons (s_v 1) (a_cons (s_int) (a_nil))) (al_cons (al_cons (al_nil)))) (a_cons (q_call D_u_law_draw (by decide) c tk (a_cons (s_v 1) (a_cons (s_int) (a_nil))) (al_cons (al_cons (al_nil)))) a_nil)))
    (ss_cons (s_set (j := 5) c.nd (q_call D_u_law_at_two (by decide) c tk (a_cons (s_v 3) (a_cons (s_v 4) (a_nil))) (al_cons (al_cons (al_nil)))))
    (ss_cons (s_ifS (t_cmp (y_ne c) (s_b (c_repr c) rfl z_repr rfl (a_cons (q_call D_numbers_at_two (by decide) c tk (a_cons (s_v 3) (a_cons (s_v 4) (a_nil))) (al_cons (al_cons (al_nil)))) (a_nil))) (s_b (c_repr c) rfl z_repr rfl (a_cons (s_v 5) (a_nil))) rfl) (ss_one (s_ret (s_bl))) (ss_nil))
    (ss_one (s_ifS (t_cmp y_isNot (s_v 5) (s_non) rfl) (ss_cons (s_ifS (t_cmp (y_ne c) (q_call D_other_rays (by decide) c tk (a_cons (s_v 5) (a_nil)) (al_cons (al_nil))) (s_tup (a_cons (s_v 4) (a_cons (s_neg (s_int)) (a_nil)))) rfl) (ss_one (s_ret (s_bl))) (ss_nil))
    (ss_cons (s_set (j := 6) c.nd (q_call D_can_be (by decide) c tk (a_cons (s_v 5) (a_nil)) (al_cons (al_nil))))
    (ss_one (s_ifS (t_cmp (y_ne c) (s_b (c_repr c) rfl z_repr rfl (a_cons (q_call D_kind_at_two (by decide) c tk (a_cons (s_v 5) (a_nil)) (al_cons (al_nil))) (a_nil))) (s_b (c_repr c) rfl z_repr rfl (a_cons (s_if (t_tr (s_v 6)) (q_call D_u_law_kind (by decide) c tk (a_cons (s_v 5) (a_nil)) (al_cons (al_nil))) (s_non)) (a_nil))) rfl) (ss_one (s_ret (s_bl))) (ss_nil))))) (ss_nil)))))))
    (ss_cons (s_set (j := 7) c.nd (s_op y_add (s_int) (q_call D_u_law_draw (by decide) c tk (a_cons (s_v 1) (a_cons (s_int) (a_nil))) (al_cons (al_cons (al_nil))))))
    (ss_cons (s_ifS (t_w (w_and (t_cmp y_gt (s_v 7) (s_int) rfl) (w_and1 (t_cmp (y_ne c) (q_call D_kind_at_two (by decide) c tk (a_cons (s_tup (a_cons (s_op y_div (s_op y_mul (s_v 7) (s_op y_sub (s_v 7) (s_int))) (s_int)) (a_cons (s_op y_mul (s_int) (s_op y_sub (s_v 7) (s_int))) (a_cons (s_op y_sub (s_v 7) (s_int)) (a_cons (s_int) (a_nil)))))) (a_nil)) (al_cons (al_nil))) (s_tup (a_cons (s_str) (a_cons (s_v 7) (a_nil)))) rfl)))) (ss_one (s_ret (s_bl))) (ss_nil))
    (ss_cons (s_ifS (t_cmp (y_ne c) (q_call D_kind_at_two (by decide) c tk (a_cons (s_tup (a_cons (s_op y_mul (s_v 7) (s_v 7)) (a_cons (s_op y_mul (s_int) (s_op y_sub (s_v 7) (s_int))) (a_cons (s_op y_sub (s_v 7) (s_int)) (a_cons (s_int) (a_nil)))))) (a_nil)) (al_cons (al_nil))) (s_tup (a_cons (s_str) (a_cons (s_v 7) (a_nil)))) rfl) (ss_one (s_ret (s_bl))) (ss_nil))
    (ss_cons (s_ifS (t_cmp (y_ne c) (q_call D_kind_at_two (by decide) c tk (a_cons (s_tup (a_cons (s_op y_mul (s_int) (s_v 7)) (a_cons (s_op y_sub (s_op y_mul (s_int) (s_v 7)) (s_int)) (a_cons (s_op y_sub (s_op y_mul (s_int) (s_v 7)) (s_int)) (a_cons (s_op y_sub (s_op y_mul (s_int) (s_v 7)) (s_int)) (a_nil)))))) (a_nil)) (al_cons (al_nil))) (s_tup (a_cons (s_str) (a_cons (s_v 7) (a_nil)))) rfl) (ss_one (s_ret (s_bl))) (ss_nil))
    (ss_cons (s_ifS (t_cmp (y_ne c) (s_frz (l_comp c (i_any (s_frz (l_lst (a_cons (s_tup (a_cons (s_int) (a_cons (s_int) (a_cons (s_int) (a_cons (s_int) (a_nil)))))) (a_cons (s_tup (a_cons (s_int) (a_cons (s_int) (a_cons (s_int) (a_cons (s_int) (a_nil)))))) (a_cons (s_tup (a_cons (s_int) (a_cons (s_int) (a_cons (s_int) (a_cons (s_int) (a_nil)))))) (a_cons (s_tup (a_cons (s_int) (a_cons (s_int) (a_cons (s_int) (a_cons (s_int) (a_nil)))))) (a_nil)))))))) (own := [("one", 14)]) (blkOk_by rfl) (by decide) (fun s H C cc fp => g_n 14 (c.blk).nd) (fun s H C cc fp => ts_nil) (fun s H C cc fp => q_call D_kind_at_two (by decide) (c.blk) takes0 (a_cons (s_v 14) (a_nil)) (al_cons (al_nil))))) (s_frz (l_mul (l_lst (a_cons (s_non) (a_nil))) (s_int))) rfl) (ss_one (s_ret (s_bl))) (ss_nil))
    (ss_cons (s_asg (s_tup (a_cons (s_op y_add (s_int) (q_call D_u_law_draw (by decide) c tk (a_cons (s_v 1) (a_cons (s_int) (a_nil))) (al_cons (al_cons (al_nil))))) (a_cons (s_frz (l_lst (a_nil))) (a_nil)))) (g_tup c.calm (gs_cons (g_n 8 c.nd) (gs_cons (g_n 9 c.nd) (gs_nil)))))
    (ss_cons (s_for hp c.calm (i_r2 rfl z_range (a_cons (s_int) (a_cons (s_v 8) (a_nil)))) (g_n 3 c.nd) (ss_one (s_for hp c.calm (i_r1 rfl z_range (a_cons (s_v 3) (a_nil))) (g_n 10 c.nd) (ss_one (s_for hp c.calm (i_r2 rfl z_range (a_cons (s_int) (a_cons (s_op y_add (s_v 3) (s_int)) (a_nil)))) (g_n 11 c.nd) (ss_one (s_ifS (t_w (w_and (t_cmp (y_eq c) (s_op y_add (s_int) (s_op y_mul (s_int) (s_op y_sub (s_v 10) (s_v 11)))) (s_op y_sub (s_v 3) (s_v 11)) rfl) (w_and1 (t_cmp (y_eq c) (s_op y_mod (s_op y_mul (s_v 3) (s_op y_sub (s_op y_sub (s_v 3) (s_v 10)) (s_int))) (s_v 11)) (s_int) rfl)))) (ss_cons (s_set (j := 12) c.nd (s_tup (a_cons (s_op y_add (s_op y_add (s_int) (s_v 3)) (s_op y_div (s_op y_mul (s_v 3) (s_op y_sub (s_op y_sub (s_v 3) (s_v 10)) (s_int))) (s_v 11))) (a_cons (s_v 3) (a_cons (s_v 10) (a_cons (s_v 11) (a_nil)))))))
    (ss_one (s_ifS (t_w (w_and (t_chain (y_lt c) y_le (s_op y_add (s_v 3) (s_int)) (s_ix c (s_v 12) (s_int) (fun _ _ => rfl)) (s_v 8) ) (w_and (t_tr (q_call D_can_be (by decide) c tk (a_cons (s_v 12) (a_nil)) (al_cons (al_nil)))) (w_and1 (t_cmp (y_eq c) (s_ix c (q_call D_other_rays (by decide) c tk (a_cons (s_v 12) (a_nil)) (al_cons (al_nil))) (s_int) (fun _ _ => rfl)) (s_neg (s_int)) rfl))))) (ss_one (s_set (j := 9) c.nd (s_op y_add (s_v 9) (s_if (t_cmp (y_lt c) (s_ix c (q_call D_ray_times (by decide) c tk (a_cons (s_v 12) (a_nil)) (al_cons (al_nil))) (s_int) (fun _ _ => rfl)) (s_int) rfl) (s_frz (l_lst (a_cons (s_v 12) (a_nil)))) (s_frz (l_lst (a_nil))))))) (ss_nil)))) (ss_nil))))))))
    (ss_cons (s_set (j := 13) c.nd (s_frz (l_lst (a_cons (s_tup (a_cons (s_int) (a_cons (s_int) (a_cons (s_int) (a_cons (s_int) (a_nil)))))) (a_cons (s_tup (a_cons (s_int) (a_cons (s_int) (a_cons (s_int) (a_cons (s_int) (a_nil)))))) (a_cons (s_tup (a_cons (s_int) (a_cons (s_int) (a_cons (s_int) (a_cons (s_int) (a_nil)))))) (a_cons (s_tup (a_cons (s_int) (a_cons (s_int) (a_cons (s_int) (a_cons (s_int) (a_nil)))))) (a_cons (s_tup (a_cons (s_int) (a_cons (s_int) (a_cons (s_int) (a_cons (s_int) (a_nil)))))) (a_cons (s_tup (a_cons (s_int) (a_cons (s_int) (a_cons (s_int) (a_cons (s_int) (a_nil)))))) (a_cons (s_tup (a_cons (s_int) (a_cons (s_int) (a_cons (s_int) (a_cons (s_int) (a_nil)))))) (a_nil)))))))))))
    (ss_cons (s_set (j := 13) c.nd (s_op y_add (s_v 13) (s_frz (l_lst (a_cons (s_tup (a_cons (s_int) (a_cons (s_int) (a_cons (s_int) (a_cons (s_int) (a_nil)))))) (a_cons (s_tup (a_cons (s_int) (a_cons (s_int) (a_cons (s_int) (a_cons (s_int) (a_nil)))))) (a_cons (s_tup (a_cons (s_int) (a_cons (s_int) (a_cons (s_int) (a_cons (s_int) (a_nil)))))) (a_cons (s_tup (a_cons (s_int) (a_cons (s_int) (a_cons (s_int) (a_cons (s_int) (a_nil)))))) (a_cons (s_tup (a_cons (s_int) (a_cons (s_int) (a_cons (s_int) (a_cons (s_int) (a_nil)))))) (a_cons (s_tup (a_cons (s_int) (a_cons (s_int) (a_cons (s_int) (a_cons (s_int) (a_nil)))))) (a_nil)))))))))))
    (ss_cons (s_set (j := 13) c.nd (s_op y_add (s_v 13) (s_frz (l_lst (a_cons (s_tup (a_cons (s_int) (a_cons (s_int) (a_cons (s_int) (a_cons (s_int) (a_nil)))))) (a_cons (s_tup (a_cons (s_int) (a_cons (s_int) (a_cons (s_int) (a_cons (s_int) (a_nil)))))) (a_nil)))))))
    (ss_cons (s_ifS (t_cmp (y_ne c) (s_frz (l_bT c_list rfl z_list rfl (a_cons (q_call D_few_at_two (by decide) c tk (a_cons (s_v 8) (a_nil)) (al_cons (al_nil))) (a_nil)))) (s_frz (l_comp c (i_any (s_v 13)) (own := [("one", 14)]) (blkOk_by rfl) (by decide) (fun s H C cc fp => g_n 14 (c.blk).nd) (fun s H C cc fp => ts_one (t_cmp y_le (s_ix (c.blk) (s_v 14) (s_int) (fun _ _ => rfl)) (s_v 8) rfl)) (fun s H C cc fp => s_v 14))) rfl) (ss_one (s_ret (s_bl))) (ss_nil))
    (ss_one (s_ret (s_cmp (y_eq c) (s_frz (l_bT c_list rfl z_list rfl (a_cons (q_call D_few_at_two (by decide) c tk (a_cons (s_v 8) (a_nil)) (al_cons (al_nil))) (a_nil)))) (s_frz (l_b (c_sorted c) rfl z_sorted rfl (a_cons (s_v 9) (a_nil)))) rfl)))))))))))))))
end
end K27
end

section
set_option maxRecDepth 100000
set_option linter.all false
set_option maxHeartbeats 1000000
namespace K27
open Y PySem L2
abbrev quad (n k l m : Int) : D := .tup [.int n, .int k, .int l, .int m]
/-- numbers as they are drawn -/
structure Gd (n k l m : Int) : Prop where
  k0 : 0 < k
  kn : k < n - 1
  l0 : 0 ≤ l
  lk : l < k
  m0 : 0 ≤ m
  me : m ≤ k
  n1 : n < 1000
def xOf (k l m : Int) : Int := (l - m) * (l - m) + 4 * (k - m)
section
variable {n k l m : Int} {h : Hm}
theorem bal (s : Gd n k l m) : d_balanced_in [quad n k l m] h = .ok (.bl (decide (k * (k - l - 1) = (n - k - 1) * m))) h := by
  obtain ⟨k0, kn, l0, lk, m0, me, n1⟩ := s
  have a1 : mulOk k (k - l - 1) = true := mulOk_l (by omega) (by omega)
  have a2 : mulOk (n - k - 1) m = true := mulOk_l (by omega) (by omega)
  simp [d_balanced_in, b_balanced_in, b_balanced_in_1, fnP, fnK, startD, sSeq, sAsg, sPar, sRet, sRetN, sIf, sExpr, sPass, eV, Rs.out, Rs.bind, Rs.bindN, outO, gT, gTs, gN, Y.e1, Y.e2, eC, aN, aC, eTup, lLst, eFrz, eMut, oMul, oSub, oAdd, oEq, oNe, oLt, oLe, oGt, oGe, oIs, oIsNot, isN, oDiv, oMod, uNeg, uNot, uRev, eqD, ofO, finP, Y.tB, Y.tT, Y.tAnd, Y.tOr, Y.tNot, Y.tYes, eAnd, eOr, eIf, eCh, truth, eB, lB, eIs, eCall, lCall, instD, bLen, bInt, seqOf, lstOf, ownL, oIx, ixD, dctOf, atI, ixN, bMin, bMax, intsOf, minI, maxI, bAll, bAny, bools, lComp, compL, iA, unset, ll, a1, a2]
theorem whole (i : Int) : d_is_whole [.int i] h = .ok (.bl true) h := by
  simp [d_is_whole, b_is_whole, fnP, fnK, startD, sSeq, sAsg, sPar, sRet, sRetN, sIf, sExpr, sPass, eV, Rs.out, Rs.bind, Rs.bindN, outO, gT, gTs, gN, Y.e1, Y.e2, eC, aN, aC, eTup, lLst, eFrz, eMut, oMul, oSub, oAdd, oEq, oNe, oLt, oLe, oGt, oGe, oIs, oIsNot, isN, oDiv, oMod, uNeg, uNot, uRev, eqD, ofO, finP, Y.tB, Y.tT, Y.tAnd, Y.tOr, Y.tNot, Y.tYes, eAnd, eOr, eIf, eCh, truth, eB, lB, eIs, eCall, lCall, instD, bLen, bInt, seqOf, lstOf, ownL, oIx, ixD, dctOf, atI, ixN, bMin, bMax, intsOf, minI, maxI, bAll, bAny, bools, lComp, compL, iA, unset, ll]
theorem count (i : Int) : d_is_count [.int i] h = .ok (.bl (decide (0 ≤ i))) h := by
  simp [d_is_count, b_is_count, whole, fnP, fnK, startD, sSeq, sAsg, sPar, sRet, sRetN, sIf, sExpr, sPass, eV, Rs.out, Rs.bind, Rs.bindN, outO, gT, gTs, gN, Y.e1, Y.e2, eC, aN, aC, eTup, lLst, eFrz, eMut, oMul, oSub, oAdd, oEq, oNe, oLt, oLe, oGt, oGe, oIs, oIsNot, isN, oDiv, oMod, uNeg, uNot, uRev, eqD, ofO, finP, Y.tB, Y.tT, Y.tAnd, Y.tOr, Y.tNot, Y.tYes, eAnd, eOr, eIf, eCh, truth, eB, lB, eIs, eCall, lCall, instD, bLen, bInt, seqOf, lstOf, ownL, oIx, ixD, dctOf, atI, ixN, bMin, bMax, intsOf, minI, maxI, bAll, bAny, bools, lComp, compL, iA, unset, ll]
theorem are (s : Gd n k l m) : d_are_numbers [quad n k l m] h = .ok (.bl true) h := by
  obtain ⟨k0, kn, l0, lk, m0, me, n1⟩ := s
  have n0 : 0 ≤ n := by omega
  have k0' : 0 ≤ k := by omega
  simp [d_are_numbers, b_are_numbers, b_are_numbers_2, b_are_numbers_1, quad, count, fnP, fnK, startD, sSeq, sAsg, sPar, sRet, sRetN, sIf, sExpr, sPass, eV, Rs.out, Rs.bind, Rs.bindN, outO, gT, gTs, gN, Y.e1, Y.e2, eC, aN, aC, eTup, lLst, eFrz, eMut, oMul, oSub, oAdd, oEq, oNe, oLt, oLe, oGt, oGe, oIs, oIsNot, isN, oDiv, oMod, uNeg, uNot, uRev, eqD, ofO, finP, Y.tB, Y.tT, Y.tAnd, Y.tOr, Y.tNot, Y.tYes, eAnd, eOr, eIf, eCh, truth, eB, lB, eIs, eCall, lCall, instD, bLen, bInt, seqOf, lstOf, ownL, oIx, ixD, dctOf, atI, ixN, bMin, bMax, intsOf, minI, maxI, bAll, bAny, bools, lComp, compL, iA, unset, ll, n0, k0, k0', l0, m0, lk, me, kn]
theorem need (s : Gd n k l m) : d_need_numbers [quad n k l m] h = .ok .non h := by
  simp [d_need_numbers, b_need_numbers, are s, fnP, fnK, startD, sSeq, sAsg, sPar, sRet, sRetN, sIf, sExpr, sPass, eV, Rs.out, Rs.bind, Rs.bindN, outO, gT, gTs, gN, Y.e1, Y.e2, eC, aN, aC, eTup, lLst, eFrz, eMut, oMul, oSub, oAdd, oEq, oNe, oLt, oLe, oGt, oGe, oIs, oIsNot, isN, oDiv, oMod, uNeg, uNot, uRev, eqD, ofO, finP, Y.tB, Y.tT, Y.tAnd, Y.tOr, Y.tNot, Y.tYes, eAnd, eOr, eIf, eCh, truth, eB, lB, eIs, eCall, lCall, instD, bLen, bInt, seqOf, lstOf, ownL, oIx, ixD, dctOf, atI, ixN, bMin, bMax, intsOf, minI, maxI, bAll, bAny, bools, lComp, compL, iA, unset, ll]
theorem square (s : Gd n k l m) : d_square_of_difference [quad n k l m] h = .ok (.int (xOf k l m)) h := by
  obtain ⟨k0, kn, l0, lk, m0, me, n1⟩ := s
  have a1 : mulOk (l - m) (l - m) = true := mulOk_l (by omega) (by omega)
  have a2 : mulOk 4 (k - m) = true := mulOk_l (by omega) (by omega)
  have ex : (l - m) * (l - m) + 4 * (k - m) = xOf k l m := rfl
  simp [d_square_of_difference, b_square_of_difference, b_square_of_difference_1, fnP, fnK, startD, sSeq, sAsg, sPar, sRet, sRetN, sIf, sExpr, sPass, eV, Rs.out, Rs.bind, Rs.bindN, outO, gT, gTs, gN, Y.e1, Y.e2, eC, aN, aC, eTup, lLst, eFrz, eMut, oMul, oSub, oAdd, oEq, oNe, oLt, oLe, oGt, oGe, oIs, oIsNot, isN, oDiv, oMod, uNeg, uNot, uRev, eqD, ofO, finP, Y.tB, Y.tT, Y.tAnd, Y.tOr, Y.tNot, Y.tYes, eAnd, eOr, eIf, eCh, truth, eB, lB, eIs, eCall, lCall, instD, bLen, bInt, seqOf, lstOf, ownL, oIx, ixD, dctOf, atI, ixN, bMin, bMax, intsOf, minI, maxI, bAll, bAny, bools, lComp, compL, iA, unset, ll, a1, a2, ex]
theorem turned (s : Gd n k l m) : d_turned_in [quad n k l m] h = .ok (quad n (n - k - 1) (n - 2 * k + m - 2) (n - 2 * k + l)) h := by
  obtain ⟨k0, kn, l0, lk, m0, me, n1⟩ := s
  have a1 : mulOk 2 k = true := mulOk_l (by omega) (by omega)
  simp [d_turned_in, b_turned_in, b_turned_in_1, fnP, fnK, startD, sSeq, sAsg, sPar, sRet, sRetN, sIf, sExpr, sPass, eV, Rs.out, Rs.bind, Rs.bindN, outO, gT, gTs, gN, Y.e1, Y.e2, eC, aN, aC, eTup, lLst, eFrz, eMut, oMul, oSub, oAdd, oEq, oNe, oLt, oLe, oGt, oGe, oIs, oIsNot, isN, oDiv, oMod, uNeg, uNot, uRev, eqD, ofO, finP, Y.tB, Y.tT, Y.tAnd, Y.tOr, Y.tNot, Y.tYes, eAnd, eOr, eIf, eCh, truth, eB, lB, eIs, eCall, lCall, instD, bLen, bInt, seqOf, lstOf, ownL, oIx, ixD, dctOf, atI, ixN, bMin, bMax, intsOf, minI, maxI, bAll, bAny, bools, lComp, compL, iA, unset, ll, a1]
/-! ### roots -/
def sq (x : Int) : Int := (Float64.isqrt x.toNat : Nat)
theorem sq_spec {x : Int} (x0 : 0 ≤ x) : 0 ≤ sq x ∧ sq x * sq x ≤ x ∧ x < (sq x + 1) * (sq x + 1) := by
  have z := Float64.isqrt_spec x.toNat
  have e : ((x.toNat : Nat) : Int) = x := Int.toNat_of_nonneg x0
  refine ⟨Int.natCast_nonneg _, ?_, ?_⟩
  · have := z.1
    have q : ((Float64.isqrt x.toNat * Float64.isqrt x.toNat : Nat) : Int) ≤ (x.toNat : Nat) := by exact_mod_cast this
    rw [e] at q
    simpa [sq] using q
  · have := z.2
    have q : ((x.toNat : Nat) : Int) < (((Float64.isqrt x.toNat + 1) * (Float64.isqrt x.toNat + 1) : Nat) : Int) := by exact_mod_cast this
    rw [e] at q
    simpa [sq] using q
theorem x_ok (s : Gd n k l m) : 0 ≤ xOf k l m ∧ xOf k l m < 2000000 := by
  obtain ⟨k0, kn, l0, lk, m0, me, n1⟩ := s
  have a : 0 ≤ (l - m) * (l - m) := by
    rcases Int.le_total 0 (l - m) with z | z
    · exact Int.mul_nonneg z z
    · exact Int.mul_nonneg_of_nonpos_of_nonpos z z
  have b : (l - m) * (l - m) ≤ 1000 * 1000 := by
    rcases Int.le_total 0 (l - m) with z | z
    · exact Int.mul_le_mul (by omega) (by omega) z (by omega)
    · have := Int.mul_le_mul (a := -(l - m)) (b := -(l - m)) (c := 1000) (d := 1000) (by omega) (by omega) (by omega) (by omega)
      rwa [Int.neg_mul_neg] at this
  unfold xOf
  omega
def raysM (k l m : Int) : Option (Int × Int) := if sq (xOf k l m) * sq (xOf k l m) = xOf k l m ∧ (l - m + sq (xOf k l m)) % 2 = 0 then some ((l - m + sq (xOf k l m)) / 2, (l - m - sq (xOf k l m)) / 2) else none
def pairD : Option (Int × Int) → D
  | none => .non
  | some (a, b) => .tup [.int a, .int b]
theorem sq_lt {x : Int} (x0 : 0 ≤ x) (x1 : x < 4000000) : sq x < 2000 := by
  obtain ⟨a, b, c⟩ := sq_spec x0
  by_cases z : sq x < 2000
  · exact z
  · have := Int.mul_le_mul (a := 2000) (b := 2000) (c := sq x) (d := sq x) (by omega) (by omega) (by omega) a
    omega
theorem sqrt_ok {x : Int} (x0 : 0 ≤ x) (x1 : x < big) : bSqrt h [.int x] = some (.int (sq x)) := by
  show (if 0 ≤ x ∧ x < big then some (D.int (Float64.isqrt x.toNat : Nat)) else none) = _
  rw [if_pos ⟨x0, x1⟩]
  rfl
theorem c0 (q x : Int) (sqr : d_square_of_difference [quad n k l m] h = .ok (.int x) h) (eq : bSqrt h [.int x] = some (.int q)) (a1 : mulOk q q = true) :
   b_rays_in [some (quad n k l m), none, none, none] h = b_rays_in_2 [some (quad n k l m), some (.int x), some (.int (l - m)), some (.int q)] h := by
  simp [b_rays_in, b_rays_in_1, sqr, fnP, fnK, startD, sSeq, sAsg, sPar, sRet, sRetN, sIf, sExpr, sPass, eV, Rs.out, Rs.bind, Rs.bindN, outO, gT, gTs, gN, Y.e1, Y.e2, eC, aN, aC, eTup, lLst, eFrz, eMut, oMul, oSub, oAdd, oEq, oNe, oLt, oLe, oGt, oGe, oIs, oIsNot, isN, oDiv, oMod, uNeg, uNot, uRev, eqD, ofO, finP, Y.tB, Y.tT, Y.tAnd, Y.tOr, Y.tNot, Y.tYes, eAnd, eOr, eIf, eCh, truth, eB, lB, eIs, eCall, lCall, instD, bLen, bInt, seqOf, lstOf, ownL, oIx, ixD, dctOf, atI, ixN, bMin, bMax, intsOf, minI, maxI, bAll, bAny, bools, lComp, compL, iA, unset, ll, a1, eq]
theorem c1 (q x : Int) (a1 : mulOk q q = true) (c1 : q * q = x) (c2 : (l - m + q) % 2 = 0) :
   b_rays_in_2 [some (quad n k l m), some (.int x), some (.int (l - m)), some (.int q)] h = b_rays_in_3 [some (quad n k l m), some (.int x), some (.int (l - m)), some (.int q)] h := by
  simp [b_rays_in_2, fnP, fnK, startD, sSeq, sAsg, sPar, sRet, sRetN, sIf, sExpr, sPass, eV, Rs.out, Rs.bind, Rs.bindN, outO, gT, gTs, gN, Y.e1, Y.e2, eC, aN, aC, eTup, lLst, eFrz, eMut, oMul, oSub, oAdd, oEq, oNe, oLt, oLe, oGt, oGe, oIs, oIsNot, isN, oDiv, oMod, uNeg, uNot, uRev, eqD, ofO, finP, Y.tB, Y.tT, Y.tAnd, Y.tOr, Y.tNot, Y.tYes, eAnd, eOr, eIf, eCh, truth, eB, lB, eIs, eCall, lCall, instD, bLen, bInt, seqOf, lstOf, ownL, oIx, ixD, dctOf, atI, ixN, bMin, bMax, intsOf, minI, maxI, bAll, bAny, bools, lComp, compL, iA, unset, ll, a1, c1, c2]
theorem c2 (q x : Int) :
   b_rays_in_3 [some (quad n k l m), some (.int x), some (.int (l - m)), some (.int q)] h = .rt (.tup [.int ((l-m+q)/2), .int ((l-m-q)/2)]) h := by
  simp [b_rays_in_3, fnP, fnK, startD, sSeq, sAsg, sPar, sRet, sRetN, sIf, sExpr, sPass, eV, Rs.out, Rs.bind, Rs.bindN, outO, gT, gTs, gN, Y.e1, Y.e2, eC, aN, aC, eTup, lLst, eFrz, eMut, oMul, oSub, oAdd, oEq, oNe, oLt, oLe, oGt, oGe, oIs, oIsNot, isN, oDiv, oMod, uNeg, uNot, uRev, eqD, ofO, finP, Y.tB, Y.tT, Y.tAnd, Y.tOr, Y.tNot, Y.tYes, eAnd, eOr, eIf, eCh, truth, eB, lB, eIs, eCall, lCall, instD, bLen, bInt, seqOf, lstOf, ownL, oIx, ixD, dctOf, atI, ixN, bMin, bMax, intsOf, minI, maxI, bAll, bAny, bools, lComp, compL, iA, unset, ll]
theorem c4 (q x : Int) (a1 : mulOk q q = true) (c1 : ¬ (q * q = x ∧ (l - m + q) % 2 = 0)) :
   b_rays_in_2 [some (quad n k l m), some (.int x), some (.int (l - m)), some (.int q)] h = .rt .non h := by
  by_cases z : q * q = x
  · have z2 : ¬ (l - m + q) % 2 = 0 := fun y => c1 ⟨z, y⟩
    simp [b_rays_in_2, fnP, fnK, startD, sSeq, sAsg, sPar, sRet, sRetN, sIf, sExpr, sPass, eV, Rs.out, Rs.bind, Rs.bindN, outO, gT, gTs, gN, Y.e1, Y.e2, eC, aN, aC, eTup, lLst, eFrz, eMut, oMul, oSub, oAdd, oEq, oNe, oLt, oLe, oGt, oGe, oIs, oIsNot, isN, oDiv, oMod, uNeg, uNot, uRev, eqD, ofO, finP, Y.tB, Y.tT, Y.tAnd, Y.tOr, Y.tNot, Y.tYes, eAnd, eOr, eIf, eCh, truth, eB, lB, eIs, eCall, lCall, instD, bLen, bInt, seqOf, lstOf, ownL, oIx, ixD, dctOf, atI, ixN, bMin, bMax, intsOf, minI, maxI, bAll, bAny, bools, lComp, compL, iA, unset, ll, a1, z, z2]
  · simp [b_rays_in_2, fnP, fnK, startD, sSeq, sAsg, sPar, sRet, sRetN, sIf, sExpr, sPass, eV, Rs.out, Rs.bind, Rs.bindN, outO, gT, gTs, gN, Y.e1, Y.e2, eC, aN, aC, eTup, lLst, eFrz, eMut, oMul, oSub, oAdd, oEq, oNe, oLt, oLe, oGt, oGe, oIs, oIsNot, isN, oDiv, oMod, uNeg, uNot, uRev, eqD, ofO, finP, Y.tB, Y.tT, Y.tAnd, Y.tOr, Y.tNot, Y.tYes, eAnd, eOr, eIf, eCh, truth, eB, lB, eIs, eCall, lCall, instD, bLen, bInt, seqOf, lstOf, ownL, oIx, ixD, dctOf, atI, ixN, bMin, bMax, intsOf, minI, maxI, bAll, bAny, bools, lComp, compL, iA, unset, ll, a1, z]
theorem rays_in (s : Gd n k l m) : d_rays_in [quad n k l m] h = .ok (pairD (raysM k l m)) h := by
  have sx := x_ok s
  have s2 := sq_lt sx.1 (by omega)
  have s0 := (sq_spec sx.1).1
  have b1 : xOf k l m < big := by have := sx.2; unfold big; omega
  have eq := sqrt_ok (h := h) sx.1 b1
  have sqr := square (h := h) s
  have a1 : mulOk (sq (xOf k l m)) (sq (xOf k l m)) = true := mulOk_l (by omega) (by omega)
  have e0 := c0 _ _ sqr eq a1
  unfold raysM d_rays_in fnP
  have es : startD 4 [quad n k l m] = [some (quad n k l m), none, none, none] := rfl
  rw [es, e0]
  generalize sq (xOf k l m) = q at *
  generalize xOf k l m = x at *
  by_cases z : q * q = x ∧ (l - m + q) % 2 = 0
  · rw [c1 q x a1 z.1 z.2, c2, if_pos z]
    simp [finP, pairD]
  · rw [c4 q x a1 z, if_neg z]
    simp [finP, pairD]
theorem rays_ok (s : Gd n k l m) : d_other_rays [quad n k l m] h = .ok (pairD (raysM k l m)) h := by
  simp [d_other_rays, b_other_rays, b_other_rays_1, need s, rays_in s, fnP, fnK, startD, sSeq, sAsg, sPar, sRet, sRetN, sIf, sExpr, sPass, eV, Rs.out, Rs.bind, Rs.bindN, outO, gT, gTs, gN, Y.e1, Y.e2, eC, aN, aC, eTup, lLst, eFrz, eMut, oMul, oSub, oAdd, oEq, oNe, oLt, oLe, oGt, oGe, oIs, oIsNot, isN, oDiv, oMod, uNeg, uNot, uRev, eqD, ofO, finP, Y.tB, Y.tT, Y.tAnd, Y.tOr, Y.tNot, Y.tYes, eAnd, eOr, eIf, eCh, truth, eB, lB, eIs, eCall, lCall, instD, bLen, bInt, seqOf, lstOf, ownL, oIx, ixD, dctOf, atI, ixN, bMin, bMax, intsOf, minI, maxI, bAll, bAny, bools, lComp, compL, iA, unset, ll]
theorem rays_some {r t : Int} (s : Gd n k l m) (e : raysM k l m = some (r, t)) : 0 ≤ r - t ∧ r - t < 2000 ∧ r + t = l - m ∧ r * t = m - k := by
  have sx := x_ok s
  have s0 := (sq_spec sx.1).1
  have s2 := sq_lt sx.1 (by omega)
  unfold raysM at e
  generalize hq : sq (xOf k l m) = q at *
  split at e
  · rename_i c
    cases e
    have hx : xOf k l m = (l - m) * (l - m) + 4 * (k - m) := rfl
    have h1 : 2 * ((l - m + q) / 2) = l - m + q := by omega
    have h2 : 2 * ((l - m - q) / 2) = l - m - q := by omega
    refine ⟨by omega, by omega, by omega, ?_⟩
    have c1 := c.1
    rw [hx] at c1
    generalize (l - m + q) / 2 = r at *
    generalize (l - m - q) / 2 = t at *
    grind
  · cases e
def timesOf (n k l m : Int) : Option (Int × Int) → Option (Int × Int)
  | none => if (n - 1) % 2 = 0 ∧ 2 * k + (n - 1) * (l - m) = 0 then some ((n - 1) / 2, (n - 1) / 2) else none
  | some (r, t) => if r = t then none else if (-k - t * (n - 1)) % (r - t) = 0 ∧ 0 ≤ (-k - t * (n - 1)) / (r - t) ∧ (-k - t * (n - 1)) / (r - t) ≤ n - 1 then some ((-k - t * (n - 1)) / (r - t), n - 1 - (-k - t * (n - 1)) / (r - t)) else none
def timesM (n k l m : Int) : Option (Int × Int) := timesOf n k l m (raysM k l m)
theorem t0 (s : Gd n k l m) : b_times_in [some (quad n k l m), none, none, none, none, none, none, none, none, none, none] h = b_times_in_2 [some (quad n k l m), some (.int n), some (.int k), some (.int l), some (.int m), some (pairD (raysM k l m)), none, none, none, none, none] h := by
  simp [b_times_in, b_times_in_1, rays_in s, fnP, fnK, startD, sSeq, sAsg, sPar, sRet, sRetN, sIf, sExpr, sPass, eV, Rs.out, Rs.bind, Rs.bindN, outO, gT, gTs, gN, Y.e1, Y.e2, eC, aN, aC, eTup, lLst, eFrz, eMut, oMul, oSub, oAdd, oEq, oNe, oLt, oLe, oGt, oGe, oIs, oIsNot, isN, oDiv, oMod, uNeg, uNot, uRev, eqD, ofO, finP, Y.tB, Y.tT, Y.tAnd, Y.tOr, Y.tNot, Y.tYes, eAnd, eOr, eIf, eCh, truth, eB, lB, eIs, eCall, lCall, instD, bLen, bInt, seqOf, lstOf, ownL, oIx, ixD, dctOf, atI, ixN, bMin, bMax, intsOf, minI, maxI, bAll, bAny, bools, lComp, compL, iA, unset, ll]
theorem t1 (s : Gd n k l m) : ∃ d, b_times_in_2 [some (quad n k l m), some (.int n), some (.int k), some (.int l), some (.int m), some (pairD none), none, none, none, none, none] h = .rt (pairD (timesOf n k l m none)) h ∧ d = () := by
  obtain ⟨k0, kn, l0, lk, m0, me, n1⟩ := s
  have a1 : mulOk 2 k = true := mulOk_l (by omega) (by omega)
  have a2 : mulOk (n - 1) (l - m) = true := mulOk_l (by omega) (by omega)
  refine ⟨(), ?_, rfl⟩
  unfold timesOf
  by_cases c1 : (n - 1) % 2 = 0
  · by_cases c2 : 2 * k + (n - 1) * (l - m) = 0
    · simp [b_times_in_2, pairD, fnP, fnK, startD, sSeq, sAsg, sPar, sRet, sRetN, sIf, sExpr, sPass, eV, Rs.out, Rs.bind, Rs.bindN, outO, gT, gTs, gN, Y.e1, Y.e2, eC, aN, aC, eTup, lLst, eFrz, eMut, oMul, oSub, oAdd, oEq, oNe, oLt, oLe, oGt, oGe, oIs, oIsNot, isN, oDiv, oMod, uNeg, uNot, uRev, eqD, ofO, finP, Y.tB, Y.tT, Y.tAnd, Y.tOr, Y.tNot, Y.tYes, eAnd, eOr, eIf, eCh, truth, eB, lB, eIs, eCall, lCall, instD, bLen, bInt, seqOf, lstOf, ownL, oIx, ixD, dctOf, atI, ixN, bMin, bMax, intsOf, minI, maxI, bAll, bAny, bools, lComp, compL, iA, unset, ll, a1, a2, c1, c2]
    · simp [b_times_in_2, pairD, fnP, fnK, startD, sSeq, sAsg, sPar, sRet, sRetN, sIf, sExpr, sPass, eV, Rs.out, Rs.bind, Rs.bindN, outO, gT, gTs, gN, Y.e1, Y.e2, eC, aN, aC, eTup, lLst, eFrz, eMut, oMul, oSub, oAdd, oEq, oNe, oLt, oLe, oGt, oGe, oIs, oIsNot, isN, oDiv, oMod, uNeg, uNot, uRev, eqD, ofO, finP, Y.tB, Y.tT, Y.tAnd, Y.tOr, Y.tNot, Y.tYes, eAnd, eOr, eIf, eCh, truth, eB, lB, eIs, eCall, lCall, instD, bLen, bInt, seqOf, lstOf, ownL, oIx, ixD, dctOf, atI, ixN, bMin, bMax, intsOf, minI, maxI, bAll, bAny, bools, lComp, compL, iA, unset, ll, a1, a2, c1, c2]
  · simp [b_times_in_2, pairD, fnP, fnK, startD, sSeq, sAsg, sPar, sRet, sRetN, sIf, sExpr, sPass, eV, Rs.out, Rs.bind, Rs.bindN, outO, gT, gTs, gN, Y.e1, Y.e2, eC, aN, aC, eTup, lLst, eFrz, eMut, oMul, oSub, oAdd, oEq, oNe, oLt, oLe, oGt, oGe, oIs, oIsNot, isN, oDiv, oMod, uNeg, uNot, uRev, eqD, ofO, finP, Y.tB, Y.tT, Y.tAnd, Y.tOr, Y.tNot, Y.tYes, eAnd, eOr, eIf, eCh, truth, eB, lB, eIs, eCall, lCall, instD, bLen, bInt, seqOf, lstOf, ownL, oIx, ixD, dctOf, atI, ixN, bMin, bMax, intsOf, minI, maxI, bAll, bAny, bools, lComp, compL, iA, unset, ll, a1, a2, c1]
theorem t2 {r t : Int} (s : Gd n k l m) (hq : 0 ≤ r - t ∧ r - t < 2000) : b_times_in_2 [some (quad n k l m), some (.int n), some (.int k), some (.int l), some (.int m), some (pairD (some (r, t))), none, none, none, none, none] h = .rt (pairD (timesOf n k l m (some (r, t)))) h := by
  obtain ⟨k0, kn, l0, lk, m0, me, n1⟩ := s
  have a1 : mulOk t (n - 1) = true := mulOk_r (by omega) (by omega)
  unfold timesOf
  dsimp only
  have e3 : b_times_in_2 [some (quad n k l m), some (.int n), some (.int k), some (.int l), some (.int m), some (pairD (some (r, t))), none, none, none, none, none] h = b_times_in_5 [some (quad n k l m), some (.int n), some (.int k), some (.int l), some (.int m), some (pairD (some (r, t))), none, some (.int r), some (.int t), some (.int (-k - t * (n - 1))), none] h := by
    simp [b_times_in_2, b_times_in_3, b_times_in_4, pairD, fnP, fnK, startD, sSeq, sAsg, sPar, sRet, sRetN, sIf, sExpr, sPass, eV, Rs.out, Rs.bind, Rs.bindN, outO, gT, gTs, gN, Y.e1, Y.e2, eC, aN, aC, eTup, lLst, eFrz, eMut, oMul, oSub, oAdd, oEq, oNe, oLt, oLe, oGt, oGe, oIs, oIsNot, isN, oDiv, oMod, uNeg, uNot, uRev, eqD, ofO, finP, Y.tB, Y.tT, Y.tAnd, Y.tOr, Y.tNot, Y.tYes, eAnd, eOr, eIf, eCh, truth, eB, lB, eIs, eCall, lCall, instD, bLen, bInt, seqOf, lstOf, ownL, oIx, ixD, dctOf, atI, ixN, bMin, bMax, intsOf, minI, maxI, bAll, bAny, bools, lComp, compL, iA, unset, ll, a1]
  rw [e3]
  generalize -k - t * (n - 1) = top at *
  by_cases c : r = t
  · simp [b_times_in_5, pairD, fnP, fnK, startD, sSeq, sAsg, sPar, sRet, sRetN, sIf, sExpr, sPass, eV, Rs.out, Rs.bind, Rs.bindN, outO, gT, gTs, gN, Y.e1, Y.e2, eC, aN, aC, eTup, lLst, eFrz, eMut, oMul, oSub, oAdd, oEq, oNe, oLt, oLe, oGt, oGe, oIs, oIsNot, isN, oDiv, oMod, uNeg, uNot, uRev, eqD, ofO, finP, Y.tB, Y.tT, Y.tAnd, Y.tOr, Y.tNot, Y.tYes, eAnd, eOr, eIf, eCh, truth, eB, lB, eIs, eCall, lCall, instD, bLen, bInt, seqOf, lstOf, ownL, oIx, ixD, dctOf, atI, ixN, bMin, bMax, intsOf, minI, maxI, bAll, bAny, bools, lComp, compL, iA, unset, ll, c]
  · have c0 : 0 < r - t := by omega
    have c00 : t < r := by omega
    have c1 : r - t < 1073741824 := by omega
    rw [if_neg c]
    by_cases d1 : top % (r - t) = 0
    · by_cases d2 : 0 ≤ top / (r - t)
      · by_cases d3 : top / (r - t) ≤ n - 1
        · simp [b_times_in_5, b_times_in_6, b_times_in_7, pairD, fnP, fnK, startD, sSeq, sAsg, sPar, sRet, sRetN, sIf, sExpr, sPass, eV, Rs.out, Rs.bind, Rs.bindN, outO, gT, gTs, gN, Y.e1, Y.e2, eC, aN, aC, eTup, lLst, eFrz, eMut, oMul, oSub, oAdd, oEq, oNe, oLt, oLe, oGt, oGe, oIs, oIsNot, isN, oDiv, oMod, uNeg, uNot, uRev, eqD, ofO, finP, Y.tB, Y.tT, Y.tAnd, Y.tOr, Y.tNot, Y.tYes, eAnd, eOr, eIf, eCh, truth, eB, lB, eIs, eCall, lCall, instD, bLen, bInt, seqOf, lstOf, ownL, oIx, ixD, dctOf, atI, ixN, bMin, bMax, intsOf, minI, maxI, bAll, bAny, bools, lComp, compL, iA, unset, ll, c, c0, c00, c1, d1, d2, d3]
        · simp [b_times_in_5, b_times_in_6, b_times_in_7, pairD, fnP, fnK, startD, sSeq, sAsg, sPar, sRet, sRetN, sIf, sExpr, sPass, eV, Rs.out, Rs.bind, Rs.bindN, outO, gT, gTs, gN, Y.e1, Y.e2, eC, aN, aC, eTup, lLst, eFrz, eMut, oMul, oSub, oAdd, oEq, oNe, oLt, oLe, oGt, oGe, oIs, oIsNot, isN, oDiv, oMod, uNeg, uNot, uRev, eqD, ofO, finP, Y.tB, Y.tT, Y.tAnd, Y.tOr, Y.tNot, Y.tYes, eAnd, eOr, eIf, eCh, truth, eB, lB, eIs, eCall, lCall, instD, bLen, bInt, seqOf, lstOf, ownL, oIx, ixD, dctOf, atI, ixN, bMin, bMax, intsOf, minI, maxI, bAll, bAny, bools, lComp, compL, iA, unset, ll, c, c0, c00, c1, d1, d2, d3]
      · simp [b_times_in_5, b_times_in_6, b_times_in_7, pairD, fnP, fnK, startD, sSeq, sAsg, sPar, sRet, sRetN, sIf, sExpr, sPass, eV, Rs.out, Rs.bind, Rs.bindN, outO, gT, gTs, gN, Y.e1, Y.e2, eC, aN, aC, eTup, lLst, eFrz, eMut, oMul, oSub, oAdd, oEq, oNe, oLt, oLe, oGt, oGe, oIs, oIsNot, isN, oDiv, oMod, uNeg, uNot, uRev, eqD, ofO, finP, Y.tB, Y.tT, Y.tAnd, Y.tOr, Y.tNot, Y.tYes, eAnd, eOr, eIf, eCh, truth, eB, lB, eIs, eCall, lCall, instD, bLen, bInt, seqOf, lstOf, ownL, oIx, ixD, dctOf, atI, ixN, bMin, bMax, intsOf, minI, maxI, bAll, bAny, bools, lComp, compL, iA, unset, ll, c, c0, c00, c1, d1, d2]
    · simp [b_times_in_5, pairD, fnP, fnK, startD, sSeq, sAsg, sPar, sRet, sRetN, sIf, sExpr, sPass, eV, Rs.out, Rs.bind, Rs.bindN, outO, gT, gTs, gN, Y.e1, Y.e2, eC, aN, aC, eTup, lLst, eFrz, eMut, oMul, oSub, oAdd, oEq, oNe, oLt, oLe, oGt, oGe, oIs, oIsNot, isN, oDiv, oMod, uNeg, uNot, uRev, eqD, ofO, finP, Y.tB, Y.tT, Y.tAnd, Y.tOr, Y.tNot, Y.tYes, eAnd, eOr, eIf, eCh, truth, eB, lB, eIs, eCall, lCall, instD, bLen, bInt, seqOf, lstOf, ownL, oIx, ixD, dctOf, atI, ixN, bMin, bMax, intsOf, minI, maxI, bAll, bAny, bools, lComp, compL, iA, unset, ll, c, c0, c00, c1, d1]
theorem times_in (s : Gd n k l m) : d_times_in [quad n k l m] h = .ok (pairD (timesM n k l m)) h := by
  unfold d_times_in fnP
  rw [show startD 11 [quad n k l m] = [some (quad n k l m), none, none, none, none, none, none, none, none, none, none] from rfl, t0 s]
  unfold timesM
  cases e : raysM k l m with
  | none =>
    obtain ⟨_, q, _⟩ := t1 (h := h) s
    rw [q]
    simp [finP]
  | some p =>
    obtain ⟨r, t⟩ := p
    have z := rays_some s e
    rw [t2 s ⟨z.1, z.2.1⟩]
    simp [finP]
theorem times_ok (s : Gd n k l m) (hb : k * (k - l - 1) = (n - k - 1) * m) : d_ray_times [quad n k l m] h = .ok (pairD (timesM n k l m)) h := by
  simp [d_ray_times, b_ray_times, b_ray_times_2, b_ray_times_1, need s, bal s, times_in s, hb, fnP, fnK, startD, sSeq, sAsg, sPar, sRet, sRetN, sIf, sExpr, sPass, eV, Rs.out, Rs.bind, Rs.bindN, outO, gT, gTs, gN, Y.e1, Y.e2, eC, aN, aC, eTup, lLst, eFrz, eMut, oMul, oSub, oAdd, oEq, oNe, oLt, oLe, oGt, oGe, oIs, oIsNot, isN, oDiv, oMod, uNeg, uNot, uRev, eqD, ofO, finP, Y.tB, Y.tT, Y.tAnd, Y.tOr, Y.tNot, Y.tYes, eAnd, eOr, eIf, eCh, truth, eB, lB, eIs, eCall, lCall, instD, bLen, bInt, seqOf, lstOf, ownL, oIx, ixD, dctOf, atI, ixN, bMin, bMax, intsOf, minI, maxI, bAll, bAny, bools, lComp, compL, iA, unset, ll]
def mn4 (a b c d : Int) : Int := min (min (min a b) c) d
theorem min4 {a b c d : Int} : bMin h [quad a b c d] = some (.int (mn4 a b c d)) := by
  simp [bMin, intsOf, minI, mn4]
theorem min2 {a b : Int} : bMin h [.tup [.int a, .int b]] = some (.int (min a b)) := by
  simp [bMin, intsOf, minI]
theorem times_some {f g : Int} (s : Gd n k l m) (e : timesM n k l m = some (f, g)) : 0 ≤ f ∧ 0 ≤ g ∧ f + g ≤ 1000 := by
  obtain ⟨k0, kn, l0, lk, m0, me, n1⟩ := s
  unfold timesM at e
  cases e1 : raysM k l m with
  | none =>
    rw [e1] at e
    simp only [timesOf] at e
    split at e
    · cases e; omega
    · cases e
  | some p =>
    rw [e1] at e
    obtain ⟨r, t⟩ := p
    simp only [timesOf] at e
    split at e
    · cases e
    · split at e
      · rename_i c
        cases e
        omega
      · cases e
/-- can they be -/
def dueB (n k l m : Int) : Bool := if k * (k - l - 1) = (n - k - 1) * m ∧ 0 ≤ mn4 n (n - k - 1) (n - 2 * k + m - 2) (n - 2 * k + l) then
  match timesM n k l m with
  | none => false
  | some (f, g) => if 0 < m ∧ m < k then decide (2 * n ≤ min f g * (min f g + 3)) else true
  else false
theorem mono3 {a b : Int} (h0 : 0 ≤ a) (h1 : a ≤ b) : a * (a + 3) ≤ b * (b + 3) := Int.mul_le_mul h1 (by omega) (by omega) (by omega)
theorem due_pair {N f g : Int} (f0 : 0 ≤ f) (g0 : 0 ≤ g) : (decide (N ≤ f * (f + 3)) && decide (N ≤ g * (g + 3))) = decide (N ≤ min f g * (min f g + 3)) := by
  rcases Int.le_total f g with c | c
  · have m1 := mono3 f0 c
    rw [Int.min_eq_left c]
    by_cases z : N ≤ f * (f + 3)
    · have z2 : N ≤ g * (g + 3) := by omega
      simp [z, z2]
    · simp [z]
  · have m1 := mono3 g0 c
    rw [Int.min_eq_right c]
    by_cases z : N ≤ g * (g + 3)
    · have z2 : N ≤ f * (f + 3) := by omega
      simp [z, z2]
    · simp [z]
theorem can_in (s : Gd n k l m) : d_can_be_in [quad n k l m] h = .ok (.bl (dueB n k l m)) h := by
  obtain ⟨k0, kn, l0, lk, m0, me, n1⟩ := id s
  unfold d_can_be_in fnP dueB
  rw [show startD 7 [quad n k l m] = [some (quad n k l m), none, none, none, none, none, none] from rfl]
  by_cases c1 : k * (k - l - 1) = (n - k - 1) * m
  · by_cases c2 : 0 ≤ mn4 n (n - k - 1) (n - 2 * k + m - 2) (n - 2 * k + l)
    · have c2' : ¬ mn4 n (n - k - 1) (n - 2 * k + m - 2) (n - 2 * k + l) < 0 := by omega
      rw [if_pos ⟨c1, c2⟩]
      have e1 : b_can_be_in [some (quad n k l m), none, none, none, none, none, none] h = b_can_be_in_2 [some (quad n k l m), some (pairD (timesM n k l m)), none, none, none, none, none] h := by
        simp [b_can_be_in, b_can_be_in_1, bal s, turned s, times_in s, min4, c1, c2', fnP, fnK, startD, sSeq, sAsg, sPar, sRet, sRetN, sIf, sExpr, sPass, eV, Rs.out, Rs.bind, Rs.bindN, outO, gT, gTs, gN, Y.e1, Y.e2, eC, aN, aC, eTup, lLst, eFrz, eMut, oMul, oSub, oAdd, oEq, oNe, oLt, oLe, oGt, oGe, oIs, oIsNot, isN, oDiv, oMod, uNeg, uNot, uRev, eqD, ofO, finP, Y.tB, Y.tT, Y.tAnd, Y.tOr, Y.tNot, Y.tYes, eAnd, eOr, eIf, eCh, truth, eB, lB, eIs, eCall, lCall, instD, bLen, bInt, seqOf, lstOf, ownL, oIx, ixD, dctOf, atI, ixN, bMax, maxI, bAll, bAny, bools, lComp, compL, iA, unset, ll]
      rw [e1]
      cases e : timesM n k l m with
      | none => simp [b_can_be_in_2, pairD, fnP, fnK, startD, sSeq, sAsg, sPar, sRet, sRetN, sIf, sExpr, sPass, eV, Rs.out, Rs.bind, Rs.bindN, outO, gT, gTs, gN, Y.e1, Y.e2, eC, aN, aC, eTup, lLst, eFrz, eMut, oMul, oSub, oAdd, oEq, oNe, oLt, oLe, oGt, oGe, oIs, oIsNot, isN, oDiv, oMod, uNeg, uNot, uRev, eqD, ofO, finP, Y.tB, Y.tT, Y.tAnd, Y.tOr, Y.tNot, Y.tYes, eAnd, eOr, eIf, eCh, truth, eB, lB, eIs, eCall, lCall, instD, bLen, bInt, seqOf, lstOf, ownL, oIx, ixD, dctOf, atI, ixN, bMin, bMax, intsOf, minI, maxI, bAll, bAny, bools, lComp, compL, iA, unset, ll]
      | some p =>
        obtain ⟨f, g⟩ := p
        have z := times_some s e
        have a1 : mulOk 2 n = true := mulOk_l (by omega) (by omega)
        have a2 : mulOk f (f + 3) = true := mulOk_l (by omega) (by omega)
        have a3 : mulOk g (g + 3) = true := mulOk_l (by omega) (by omega)
        have dp := due_pair (N := 2 * n) z.1 z.2.1
        by_cases d1 : 0 < m
        · by_cases d2 : m < k
          · simp [b_can_be_in_2, b_can_be_in_3, b_can_be_in_4, pairD, fnP, fnK, startD, sSeq, sAsg, sPar, sRet, sRetN, sIf, sExpr, sPass, eV, Rs.out, Rs.bind, Rs.bindN, outO, gT, gTs, gN, Y.e1, Y.e2, eC, aN, aC, eTup, lLst, eFrz, eMut, oMul, oSub, oAdd, oEq, oNe, oLt, oLe, oGt, oGe, oIs, oIsNot, isN, oDiv, oMod, uNeg, uNot, uRev, eqD, ofO, finP, Y.tB, Y.tT, Y.tAnd, Y.tOr, Y.tNot, Y.tYes, eAnd, eOr, eIf, eCh, truth, eB, lB, eIs, eCall, lCall, instD, bLen, bInt, seqOf, lstOf, ownL, oIx, ixD, dctOf, atI, ixN, bMin, bMax, intsOf, minI, maxI, bAll, bAny, bools, lComp, compL, iA, unset, ll, d1, d2, a1, a2, a3, ← dp]
          · simp [b_can_be_in_2, b_can_be_in_3, b_can_be_in_4, pairD, fnP, fnK, startD, sSeq, sAsg, sPar, sRet, sRetN, sIf, sExpr, sPass, eV, Rs.out, Rs.bind, Rs.bindN, outO, gT, gTs, gN, Y.e1, Y.e2, eC, aN, aC, eTup, lLst, eFrz, eMut, oMul, oSub, oAdd, oEq, oNe, oLt, oLe, oGt, oGe, oIs, oIsNot, isN, oDiv, oMod, uNeg, uNot, uRev, eqD, ofO, finP, Y.tB, Y.tT, Y.tAnd, Y.tOr, Y.tNot, Y.tYes, eAnd, eOr, eIf, eCh, truth, eB, lB, eIs, eCall, lCall, instD, bLen, bInt, seqOf, lstOf, ownL, oIx, ixD, dctOf, atI, ixN, bMin, bMax, intsOf, minI, maxI, bAll, bAny, bools, lComp, compL, iA, unset, ll, d1, d2]
        · simp [b_can_be_in_2, b_can_be_in_3, b_can_be_in_4, pairD, fnP, fnK, startD, sSeq, sAsg, sPar, sRet, sRetN, sIf, sExpr, sPass, eV, Rs.out, Rs.bind, Rs.bindN, outO, gT, gTs, gN, Y.e1, Y.e2, eC, aN, aC, eTup, lLst, eFrz, eMut, oMul, oSub, oAdd, oEq, oNe, oLt, oLe, oGt, oGe, oIs, oIsNot, isN, oDiv, oMod, uNeg, uNot, uRev, eqD, ofO, finP, Y.tB, Y.tT, Y.tAnd, Y.tOr, Y.tNot, Y.tYes, eAnd, eOr, eIf, eCh, truth, eB, lB, eIs, eCall, lCall, instD, bLen, bInt, seqOf, lstOf, ownL, oIx, ixD, dctOf, atI, ixN, bMin, bMax, intsOf, minI, maxI, bAll, bAny, bools, lComp, compL, iA, unset, ll, d1]
    · have c2' : mn4 n (n - k - 1) (n - 2 * k + m - 2) (n - 2 * k + l) < 0 := by omega
      rw [if_neg fun z => c2 z.2]
      simp [b_can_be_in, bal s, turned s, min4, c1, c2', fnP, fnK, startD, sSeq, sAsg, sPar, sRet, sRetN, sIf, sExpr, sPass, eV, Rs.out, Rs.bind, Rs.bindN, outO, gT, gTs, gN, Y.e1, Y.e2, eC, aN, aC, eTup, lLst, eFrz, eMut, oMul, oSub, oAdd, oEq, oNe, oLt, oLe, oGt, oGe, oIs, oIsNot, isN, oDiv, oMod, uNeg, uNot, uRev, eqD, ofO, finP, Y.tB, Y.tT, Y.tAnd, Y.tOr, Y.tNot, Y.tYes, eAnd, eOr, eIf, eCh, truth, eB, lB, eIs, eCall, lCall, instD, bLen, bInt, seqOf, lstOf, ownL, oIx, ixD, dctOf, atI, ixN, bMax, maxI, bAll, bAny, bools, lComp, compL, iA, unset, ll]
  · rw [if_neg fun z => c1 z.1]
    simp [b_can_be_in, bal s, c1, fnP, fnK, startD, sSeq, sAsg, sPar, sRet, sRetN, sIf, sExpr, sPass, eV, Rs.out, Rs.bind, Rs.bindN, outO, gT, gTs, gN, Y.e1, Y.e2, eC, aN, aC, eTup, lLst, eFrz, eMut, oMul, oSub, oAdd, oEq, oNe, oLt, oLe, oGt, oGe, oIs, oIsNot, isN, oDiv, oMod, uNeg, uNot, uRev, eqD, ofO, finP, Y.tB, Y.tT, Y.tAnd, Y.tOr, Y.tNot, Y.tYes, eAnd, eOr, eIf, eCh, truth, eB, lB, eIs, eCall, lCall, instD, bLen, bInt, seqOf, lstOf, ownL, oIx, ixD, dctOf, atI, ixN, bMin, bMax, intsOf, minI, maxI, bAll, bAny, bools, lComp, compL, iA, unset, ll]
theorem can (s : Gd n k l m) : d_can_be [quad n k l m] h = .ok (.bl (dueB n k l m)) h := by
  simp [d_can_be, b_can_be, b_can_be_1, need s, can_in s, fnP, fnK, startD, sSeq, sAsg, sPar, sRet, sRetN, sIf, sExpr, sPass, eV, Rs.out, Rs.bind, Rs.bindN, outO, gT, gTs, gN, Y.e1, Y.e2, eC, aN, aC, eTup, lLst, eFrz, eMut, oMul, oSub, oAdd, oEq, oNe, oLt, oLe, oGt, oGe, oIs, oIsNot, isN, oDiv, oMod, uNeg, uNot, uRev, eqD, ofO, finP, Y.tB, Y.tT, Y.tAnd, Y.tOr, Y.tNot, Y.tYes, eAnd, eOr, eIf, eCh, truth, eB, lB, eIs, eCall, lCall, instD, bLen, bInt, seqOf, lstOf, ownL, oIx, ixD, dctOf, atI, ixN, bMin, bMax, intsOf, minI, maxI, bAll, bAny, bools, lComp, compL, iA, unset, ll]
/-! ### texts, equality -/
theorem b60 {a : Int} (h1 : -1000000 < a) (h2 : a < 1000000) : a.natAbs < 10 ^ 60 := Nat.lt_of_lt_of_le (show a.natAbs < 1000000 by omega) (by decide)
theorem wid_int {a : Int} (h1 : -1000000 < a) (h2 : a < 1000000) : wid (.int a) = 61 := by
  unfold wid; rw [if_pos (b60 h1 h2)]
theorem repr_pair {p : Option (Int × Int)} (hp : ∀ a b, p = some (a, b) → -1000000 < a ∧ a < 1000000 ∧ -1000000 < b ∧ b < 1000000) : ∃ x : Str, bRepr h [pairD p] = some (.str x) := by
  cases p with
  | none => exact ⟨_, by simp [bRepr, pairD, py, SeqAt.shaped, PyData.canLay0, PyData.depth, wid, ll]; rfl⟩
  | some p =>
    obtain ⟨a, b⟩ := p
    obtain ⟨h1, h2, h3, h4⟩ := hp a b rfl
    exact ⟨_, by simp [bRepr, pairD, py, pyL, SeqAt.shaped, PyData.canLay0, PyData.canLayAll0, PyData.depth, PyData.depthAll, wid, widL, wid_int h1 h2, wid_int h3 h4, b60 h1 h2, b60 h3 h4, ll]; rfl⟩
theorem repr_quad {a b c d : Int} (h1 : -1000000 < a ∧ a < 1000000 ∧ -1000000 < b ∧ b < 1000000) (h2 : -1000000 < c ∧ c < 1000000 ∧ -1000000 < d ∧ d < 1000000) : ∃ x : Str, bRepr h [quad a b c d] = some (.str x) := by
  exact ⟨_, by simp [bRepr, py, pyL, SeqAt.shaped, PyData.canLay0, PyData.canLayAll0, PyData.depth, PyData.depthAll, wid, widL, b60 h1.1 h1.2.1, b60 h1.2.2.1 h1.2.2.2, b60 h2.1 h2.2.1, b60 h2.2.2.1 h2.2.2.2, ll]; rfl⟩
theorem ne_quad {a b c d : Int} : oNe h (quad a b c d) (quad a b c d) = some (.bl false) := by
  simp [oNe, eqD, py, pyL, SeqAt.shaped, PyData.canLay0, PyData.canLayAll0, PyData.depth, PyData.depthAll, PyData.eqv, PyData.eqvAll]
theorem ne_pair {a b : Int} : oNe h (.tup [.int a, .int b]) (.tup [.int a, .int b]) = some (.bl false) := by
  simp [oNe, eqD, py, pyL, SeqAt.shaped, PyData.canLay0, PyData.canLayAll0, PyData.depth, PyData.depthAll, PyData.eqv, PyData.eqvAll]
end
end K27
end

section
set_option maxRecDepth 100000
set_option linter.all false
set_option maxHeartbeats 2000000
namespace K27
open Y PySem L2
section
variable {n k l m r : Int} {h : Hm}
theorem are_gen (n0 : 0 ≤ n) (k0 : 0 ≤ k) (l0 : 0 ≤ l) (m0 : 0 ≤ m) : d_are_numbers [quad n k l m] h = .ok (.bl (decide (0 < k ∧ k < n - 1 ∧ l < k ∧ m ≤ k))) h := by
  by_cases c1 : 0 < k
  · by_cases c2 : k < n - 1
    · by_cases c3 : l < k
      · simp [d_are_numbers, b_are_numbers, b_are_numbers_2, b_are_numbers_1, count, fnP, fnK, startD, sSeq, sAsg, sPar, sRet, sRetN, sIf, sExpr, sPass, eV, Rs.out, Rs.bind, Rs.bindN, outO, gT, gTs, gN, Y.e1, Y.e2, eC, aN, aC, eTup, lLst, eFrz, eMut, oMul, oSub, oAdd, oEq, oNe, oLt, oLe, oGt, oGe, oIs, oIsNot, isN, oDiv, oMod, uNeg, uNot, uRev, eqD, ofO, finP, Y.tB, Y.tT, Y.tAnd, Y.tOr, Y.tNot, Y.tYes, eAnd, eOr, eIf, eCh, truth, eB, lB, eIs, eCall, lCall, instD, bLen, bInt, seqOf, lstOf, ownL, oIx, ixD, dctOf, atI, ixN, bMin, bMax, intsOf, minI, maxI, bAll, bAny, bools, lComp, compL, iA, unset, ll, n0, k0, l0, m0, c1, c2, c3]
      · simp [d_are_numbers, b_are_numbers, b_are_numbers_2, b_are_numbers_1, count, fnP, fnK, startD, sSeq, sAsg, sPar, sRet, sRetN, sIf, sExpr, sPass, eV, Rs.out, Rs.bind, Rs.bindN, outO, gT, gTs, gN, Y.e1, Y.e2, eC, aN, aC, eTup, lLst, eFrz, eMut, oMul, oSub, oAdd, oEq, oNe, oLt, oLe, oGt, oGe, oIs, oIsNot, isN, oDiv, oMod, uNeg, uNot, uRev, eqD, ofO, finP, Y.tB, Y.tT, Y.tAnd, Y.tOr, Y.tNot, Y.tYes, eAnd, eOr, eIf, eCh, truth, eB, lB, eIs, eCall, lCall, instD, bLen, bInt, seqOf, lstOf, ownL, oIx, ixD, dctOf, atI, ixN, bMin, bMax, intsOf, minI, maxI, bAll, bAny, bools, lComp, compL, iA, unset, ll, n0, k0, l0, m0, c1, c2, c3]
    · simp [d_are_numbers, b_are_numbers, b_are_numbers_2, b_are_numbers_1, count, fnP, fnK, startD, sSeq, sAsg, sPar, sRet, sRetN, sIf, sExpr, sPass, eV, Rs.out, Rs.bind, Rs.bindN, outO, gT, gTs, gN, Y.e1, Y.e2, eC, aN, aC, eTup, lLst, eFrz, eMut, oMul, oSub, oAdd, oEq, oNe, oLt, oLe, oGt, oGe, oIs, oIsNot, isN, oDiv, oMod, uNeg, uNot, uRev, eqD, ofO, finP, Y.tB, Y.tT, Y.tAnd, Y.tOr, Y.tNot, Y.tYes, eAnd, eOr, eIf, eCh, truth, eB, lB, eIs, eCall, lCall, instD, bLen, bInt, seqOf, lstOf, ownL, oIx, ixD, dctOf, atI, ixN, bMin, bMax, intsOf, minI, maxI, bAll, bAny, bools, lComp, compL, iA, unset, ll, n0, k0, l0, m0, c1, c2]
  · simp [d_are_numbers, b_are_numbers, b_are_numbers_2, b_are_numbers_1, count, fnP, fnK, startD, sSeq, sAsg, sPar, sRet, sRetN, sIf, sExpr, sPass, eV, Rs.out, Rs.bind, Rs.bindN, outO, gT, gTs, gN, Y.e1, Y.e2, eC, aN, aC, eTup, lLst, eFrz, eMut, oMul, oSub, oAdd, oEq, oNe, oLt, oLe, oGt, oGe, oIs, oIsNot, isN, oDiv, oMod, uNeg, uNot, uRev, eqD, ofO, finP, Y.tB, Y.tT, Y.tAnd, Y.tOr, Y.tNot, Y.tYes, eAnd, eOr, eIf, eCh, truth, eB, lB, eIs, eCall, lCall, instD, bLen, bInt, seqOf, lstOf, ownL, oIx, ixD, dctOf, atI, ixN, bMin, bMax, intsOf, minI, maxI, bAll, bAny, bools, lComp, compL, iA, unset, ll, n0, k0, l0, m0, c1]
theorem need_c {x : D} (i0 : 0 ≤ k) : d_need_count [x, .int k] h = .ok .non h := by
  simp [d_need_count, b_need_count, count, i0, fnP, fnK, startD, sSeq, sAsg, sPar, sRet, sRetN, sIf, sExpr, sPass, eV, Rs.out, Rs.bind, Rs.bindN, outO, gT, gTs, gN, Y.e1, Y.e2, eC, aN, aC, eTup, lLst, eFrz, eMut, oMul, oSub, oAdd, oEq, oNe, oLt, oLe, oGt, oGe, oIs, oIsNot, isN, oDiv, oMod, uNeg, uNot, uRev, eqD, ofO, finP, Y.tB, Y.tT, Y.tAnd, Y.tOr, Y.tNot, Y.tYes, eAnd, eOr, eIf, eCh, truth, eB, lB, eIs, eCall, lCall, instD, bLen, bInt, seqOf, lstOf, ownL, oIx, ixD, dctOf, atI, ixN, bMin, bMax, intsOf, minI, maxI, bAll, bAny, bools, lComp, compL, iA, unset, ll]
def atM (k r : Int) : Option (Int × Int × Int × Int) :=
  if k - r - 2 < 0 ∨ k - 2 * r < 1 ∨ k * (r + 1) % (k - 2 * r) ≠ 0 then none
  else if 0 < k ∧ k < 1 + k + k * (r + 1) / (k - 2 * r) - 1 ∧ k - r - 2 < k ∧ k - 2 * r ≤ k then some (1 + k + k * (r + 1) / (k - 2 * r), k, k - r - 2, k - 2 * r) else none
def quadD : Option (Int × Int × Int × Int) → D
  | none => .non
  | some (a, b, c, d) => quad a b c d
theorem atM_gd {k r a b c d : Int} (k0 : 0 ≤ k) (k1 : k < 41) (r0 : 0 ≤ r) (r1 : r < 21) (e : atM k r = some (a, b, c, d)) : Gd a b c d ∧ b = k ∧ c = k - r - 2 ∧ d = k - 2 * r ∧ 1 ≤ d := by
  unfold atM at e
  split at e
  · cases e
  · rename_i c1
    split at e
    · rename_i c2
      cases e
      have b0 : 0 ≤ k * (r + 1) := Int.mul_nonneg k0 (by omega)
      have b1 : k * (r + 1) ≤ 41 * 21 := Int.mul_le_mul (by omega) (by omega) (by omega) (by omega)
      have b2 : k * (r + 1) / (k - 2 * r) ≤ k * (r + 1) := Int.ediv_le_self _ b0
      exact ⟨⟨c2.1, c2.2.1, by omega, c2.2.2.1, by omega, c2.2.2.2, by omega⟩, rfl, rfl, rfl, by omega⟩
    · cases e
theorem at_in (k0 : 0 ≤ k) (k1 : k < 41) (r0 : 0 ≤ r) (r1 : r < 21) : d_at_two_in [.int k, .int r] h = .ok (quadD (atM k r)) h := by
  have a1 : mulOk 2 r = true := mulOk_l (by omega) (by omega)
  have a2 : mulOk k (r + 1) = true := mulOk_l (by omega) (by omega)
  unfold atM
  by_cases c1 : k - r - 2 < 0
  · rw [if_pos (.inl c1)]
    simp [d_at_two_in, b_at_two_in, b_at_two_in_3, b_at_two_in_2, b_at_two_in_1, quadD, a1, a2, c1, fnP, fnK, startD, sSeq, sAsg, sPar, sRet, sRetN, sIf, sExpr, sPass, eV, Rs.out, Rs.bind, Rs.bindN, outO, gT, gTs, gN, Y.e1, Y.e2, eC, aN, aC, eTup, lLst, eFrz, eMut, oMul, oSub, oAdd, oEq, oNe, oLt, oLe, oGt, oGe, oIs, oIsNot, isN, oDiv, oMod, uNeg, uNot, uRev, eqD, ofO, finP, Y.tB, Y.tT, Y.tAnd, Y.tOr, Y.tNot, Y.tYes, eAnd, eOr, eIf, eCh, truth, eB, lB, eIs, eCall, lCall, instD, bLen, bInt, seqOf, lstOf, ownL, oIx, ixD, dctOf, atI, ixN, bMin, bMax, intsOf, minI, maxI, bAll, bAny, bools, lComp, compL, iA, unset, ll]
  · by_cases c2 : k - 2 * r < 1
    · rw [if_pos (.inr (.inl c2))]
      simp [d_at_two_in, b_at_two_in, b_at_two_in_3, b_at_two_in_2, b_at_two_in_1, quadD, a1, a2, c1, c2, fnP, fnK, startD, sSeq, sAsg, sPar, sRet, sRetN, sIf, sExpr, sPass, eV, Rs.out, Rs.bind, Rs.bindN, outO, gT, gTs, gN, Y.e1, Y.e2, eC, aN, aC, eTup, lLst, eFrz, eMut, oMul, oSub, oAdd, oEq, oNe, oLt, oLe, oGt, oGe, oIs, oIsNot, isN, oDiv, oMod, uNeg, uNot, uRev, eqD, ofO, finP, Y.tB, Y.tT, Y.tAnd, Y.tOr, Y.tNot, Y.tYes, eAnd, eOr, eIf, eCh, truth, eB, lB, eIs, eCall, lCall, instD, bLen, bInt, seqOf, lstOf, ownL, oIx, ixD, dctOf, atI, ixN, bMin, bMax, intsOf, minI, maxI, bAll, bAny, bools, lComp, compL, iA, unset, ll]
    · have m0 : 0 < k - 2 * r := by omega
      have m00 : 2 * r < k := by omega
      have m1 : k - 2 * r < 1073741824 := by omega
      by_cases c3 : k * (r + 1) % (k - 2 * r) = 0
      · rw [if_neg (by omega)]
        have b0 : 0 ≤ k * (r + 1) := Int.mul_nonneg k0 (by omega)
        have b2 : 0 ≤ k * (r + 1) / (k - 2 * r) := Int.ediv_nonneg b0 (by omega)
        have e := are_gen (n := 1 + k + k * (r + 1) / (k - 2 * r)) (l := k - r - 2) (m := k - 2 * r) (h := h) (by omega) k0 (by omega) (by omega)
        have e1 : b_at_two_in [some (.int k), some (.int r), none, none, none] h = b_at_two_in_3 [some (.int k), some (.int r), some (.int (k - r - 2)), some (.int (k - 2 * r)), some (quad (1 + k + k * (r + 1) / (k - 2 * r)) k (k - r - 2) (k - 2 * r))] h := by
          simp [b_at_two_in, b_at_two_in_3, b_at_two_in_2, b_at_two_in_1, a1, a2, c1, c2, m0, m00, m1, c3, fnP, fnK, startD, sSeq, sAsg, sPar, sRet, sRetN, sIf, sExpr, sPass, eV, Rs.out, Rs.bind, Rs.bindN, outO, gT, gTs, gN, Y.e1, Y.e2, eC, aN, aC, eTup, lLst, eFrz, eMut, oMul, oSub, oAdd, oEq, oNe, oLt, oLe, oGt, oGe, oIs, oIsNot, isN, oDiv, oMod, uNeg, uNot, uRev, eqD, ofO, finP, Y.tB, Y.tT, Y.tAnd, Y.tOr, Y.tNot, Y.tYes, eAnd, eOr, eIf, eCh, truth, eB, lB, eIs, eCall, lCall, instD, bLen, bInt, seqOf, lstOf, ownL, oIx, ixD, dctOf, atI, ixN, bMin, bMax, intsOf, minI, maxI, bAll, bAny, bools, lComp, compL, iA, unset, ll]
        unfold d_at_two_in fnP
        rw [show startD 5 [D.int k, D.int r] = [some (.int k), some (.int r), none, none, none] from rfl, e1]
        by_cases c4 : 0 < k ∧ k < 1 + k + k * (r + 1) / (k - 2 * r) - 1 ∧ k - r - 2 < k ∧ k - 2 * r ≤ k
        · rw [if_pos c4]
          rw [decide_eq_true c4] at e
          simp [b_at_two_in_3, e, quadD, fnP, fnK, startD, sSeq, sAsg, sPar, sRet, sRetN, sIf, sExpr, sPass, eV, Rs.out, Rs.bind, Rs.bindN, outO, gT, gTs, gN, Y.e1, Y.e2, eC, aN, aC, eTup, lLst, eFrz, eMut, oMul, oSub, oAdd, oEq, oNe, oLt, oLe, oGt, oGe, oIs, oIsNot, isN, oDiv, oMod, uNeg, uNot, uRev, eqD, ofO, finP, Y.tB, Y.tT, Y.tAnd, Y.tOr, Y.tNot, Y.tYes, eAnd, eOr, eIf, eCh, truth, eB, lB, eIs, eCall, lCall, instD, bLen, bInt, seqOf, lstOf, ownL, oIx, ixD, dctOf, atI, ixN, bMin, bMax, intsOf, minI, maxI, bAll, bAny, bools, lComp, compL, iA, unset, ll]
        · rw [if_neg c4]
          rw [decide_eq_false c4] at e
          simp [b_at_two_in_3, e, quadD, fnP, fnK, startD, sSeq, sAsg, sPar, sRet, sRetN, sIf, sExpr, sPass, eV, Rs.out, Rs.bind, Rs.bindN, outO, gT, gTs, gN, Y.e1, Y.e2, eC, aN, aC, eTup, lLst, eFrz, eMut, oMul, oSub, oAdd, oEq, oNe, oLt, oLe, oGt, oGe, oIs, oIsNot, isN, oDiv, oMod, uNeg, uNot, uRev, eqD, ofO, finP, Y.tB, Y.tT, Y.tAnd, Y.tOr, Y.tNot, Y.tYes, eAnd, eOr, eIf, eCh, truth, eB, lB, eIs, eCall, lCall, instD, bLen, bInt, seqOf, lstOf, ownL, oIx, ixD, dctOf, atI, ixN, bMin, bMax, intsOf, minI, maxI, bAll, bAny, bools, lComp, compL, iA, unset, ll]
      · rw [if_pos (.inr (.inr c3))]
        simp [d_at_two_in, b_at_two_in, b_at_two_in_3, b_at_two_in_2, b_at_two_in_1, quadD, a1, a2, c1, c2, m0, m00, c3, fnP, fnK, startD, sSeq, sAsg, sPar, sRet, sRetN, sIf, sExpr, sPass, eV, Rs.out, Rs.bind, Rs.bindN, outO, gT, gTs, gN, Y.e1, Y.e2, eC, aN, aC, eTup, lLst, eFrz, eMut, oMul, oSub, oAdd, oEq, oNe, oLt, oLe, oGt, oGe, oIs, oIsNot, isN, oDiv, oMod, uNeg, uNot, uRev, eqD, ofO, finP, Y.tB, Y.tT, Y.tAnd, Y.tOr, Y.tNot, Y.tYes, eAnd, eOr, eIf, eCh, truth, eB, lB, eIs, eCall, lCall, instD, bLen, bInt, seqOf, lstOf, ownL, oIx, ixD, dctOf, atI, ixN, bMin, bMax, intsOf, minI, maxI, bAll, bAny, bools, lComp, compL, iA, unset, ll]
theorem num_at (k0 : 0 ≤ k) (k1 : k < 41) (r0 : 0 ≤ r) (r1 : r < 21) : d_numbers_at_two [.int k, .int r] h = .ok (quadD (atM k r)) h := by
  simp [d_numbers_at_two, b_numbers_at_two, b_numbers_at_two_2, b_numbers_at_two_1, need_c k0, need_c r0, at_in k0 k1 r0 r1, fnP, fnK, startD, sSeq, sAsg, sPar, sRet, sRetN, sIf, sExpr, sPass, eV, Rs.out, Rs.bind, Rs.bindN, outO, gT, gTs, gN, Y.e1, Y.e2, eC, aN, aC, eTup, lLst, eFrz, eMut, oMul, oSub, oAdd, oEq, oNe, oLt, oLe, oGt, oGe, oIs, oIsNot, isN, oDiv, oMod, uNeg, uNot, uRev, eqD, ofO, finP, Y.tB, Y.tT, Y.tAnd, Y.tOr, Y.tNot, Y.tYes, eAnd, eOr, eIf, eCh, truth, eB, lB, eIs, eCall, lCall, instD, bLen, bInt, seqOf, lstOf, ownL, oIx, ixD, dctOf, atI, ixN, bMin, bMax, intsOf, minI, maxI, bAll, bAny, bools, lComp, compL, iA, unset, ll]
theorem law_at (k0 : 0 ≤ k) (k1 : k < 41) (r0 : 0 ≤ r) (r1 : r < 21) : d_u_law_at_two [.int k, .int r] h = .ok (quadD (atM k r)) h := by
  have a1 : mulOk 2 r = true := mulOk_l (by omega) (by omega)
  have a2 : mulOk k (r + 1) = true := mulOk_l (by omega) (by omega)
  have er : k - (k - r - 2) - 1 = r + 1 := by omega
  unfold atM
  by_cases c1 : k - r - 2 < 0
  · rw [if_pos (.inl c1)]
    simp [d_u_law_at_two, b_u_law_at_two, b_u_law_at_two_3, b_u_law_at_two_2, b_u_law_at_two_1, quadD, a1, a2, c1, fnP, fnK, startD, sSeq, sAsg, sPar, sRet, sRetN, sIf, sExpr, sPass, eV, Rs.out, Rs.bind, Rs.bindN, outO, gT, gTs, gN, Y.e1, Y.e2, eC, aN, aC, eTup, lLst, eFrz, eMut, oMul, oSub, oAdd, oEq, oNe, oLt, oLe, oGt, oGe, oIs, oIsNot, isN, oDiv, oMod, uNeg, uNot, uRev, eqD, ofO, finP, Y.tB, Y.tT, Y.tAnd, Y.tOr, Y.tNot, Y.tYes, eAnd, eOr, eIf, eCh, truth, eB, lB, eIs, eCall, lCall, instD, bLen, bInt, seqOf, lstOf, ownL, oIx, ixD, dctOf, atI, ixN, bMin, bMax, intsOf, minI, maxI, bAll, bAny, bools, lComp, compL, iA, unset, ll]
  · by_cases c2 : k - 2 * r < 1
    · rw [if_pos (.inr (.inl c2))]
      simp [d_u_law_at_two, b_u_law_at_two, b_u_law_at_two_3, b_u_law_at_two_2, b_u_law_at_two_1, quadD, a1, a2, c1, c2, fnP, fnK, startD, sSeq, sAsg, sPar, sRet, sRetN, sIf, sExpr, sPass, eV, Rs.out, Rs.bind, Rs.bindN, outO, gT, gTs, gN, Y.e1, Y.e2, eC, aN, aC, eTup, lLst, eFrz, eMut, oMul, oSub, oAdd, oEq, oNe, oLt, oLe, oGt, oGe, oIs, oIsNot, isN, oDiv, oMod, uNeg, uNot, uRev, eqD, ofO, finP, Y.tB, Y.tT, Y.tAnd, Y.tOr, Y.tNot, Y.tYes, eAnd, eOr, eIf, eCh, truth, eB, lB, eIs, eCall, lCall, instD, bLen, bInt, seqOf, lstOf, ownL, oIx, ixD, dctOf, atI, ixN, bMin, bMax, intsOf, minI, maxI, bAll, bAny, bools, lComp, compL, iA, unset, ll]
    · have m0 : 0 < k - 2 * r := by omega
      have m00 : 2 * r < k := by omega
      have m1 : k - 2 * r < 1073741824 := by omega
      by_cases c3 : k * (r + 1) % (k - 2 * r) = 0
      · rw [if_neg (by omega)]
        have e1 : b_u_law_at_two [some (.int k), some (.int r), none, none, none] h = b_u_law_at_two_3 [some (.int k), some (.int r), some (.int (k - r - 2)), some (.int (k - 2 * r)), some (.int (1 + k + k * (r + 1) / (k - 2 * r)))] h := by
          simp [b_u_law_at_two, b_u_law_at_two_3, b_u_law_at_two_2, b_u_law_at_two_1, a1, a2, er, c1, c2, m0, m00, m1, c3, fnP, fnK, startD, sSeq, sAsg, sPar, sRet, sRetN, sIf, sExpr, sPass, eV, Rs.out, Rs.bind, Rs.bindN, outO, gT, gTs, gN, Y.e1, Y.e2, eC, aN, aC, eTup, lLst, eFrz, eMut, oMul, oSub, oAdd, oEq, oNe, oLt, oLe, oGt, oGe, oIs, oIsNot, isN, oDiv, oMod, uNeg, uNot, uRev, eqD, ofO, finP, Y.tB, Y.tT, Y.tAnd, Y.tOr, Y.tNot, Y.tYes, eAnd, eOr, eIf, eCh, truth, eB, lB, eIs, eCall, lCall, instD, bLen, bInt, seqOf, lstOf, ownL, oIx, ixD, dctOf, atI, ixN, bMin, bMax, intsOf, minI, maxI, bAll, bAny, bools, lComp, compL, iA, unset, ll]
        unfold d_u_law_at_two fnP
        rw [show startD 5 [D.int k, D.int r] = [some (.int k), some (.int r), none, none, none] from rfl, e1]
        generalize 1 + k + k * (r + 1) / (k - 2 * r) = n at *
        generalize k - r - 2 = l at *
        generalize k - 2 * r = m at *
        by_cases d1 : 0 < k
        · by_cases d2 : k < n - 1
          · by_cases d3 : l < k
            · by_cases d4 : m ≤ k
              · rw [if_pos ⟨d1, d2, d3, d4⟩]
                simp [b_u_law_at_two_3, d1, d2, d3, d4, quadD, fnP, fnK, startD, sSeq, sAsg, sPar, sRet, sRetN, sIf, sExpr, sPass, eV, Rs.out, Rs.bind, Rs.bindN, outO, gT, gTs, gN, Y.e1, Y.e2, eC, aN, aC, eTup, lLst, eFrz, eMut, oMul, oSub, oAdd, oEq, oNe, oLt, oLe, oGt, oGe, oIs, oIsNot, isN, oDiv, oMod, uNeg, uNot, uRev, eqD, ofO, finP, Y.tB, Y.tT, Y.tAnd, Y.tOr, Y.tNot, Y.tYes, eAnd, eOr, eIf, eCh, truth, eB, lB, eIs, eCall, lCall, instD, bLen, bInt, seqOf, lstOf, ownL, oIx, ixD, dctOf, atI, ixN, bMin, bMax, intsOf, minI, maxI, bAll, bAny, bools, lComp, compL, iA, unset, ll]
              · rw [if_neg fun z => d4 z.2.2.2]
                simp [b_u_law_at_two_3, d1, d2, d3, d4, quadD, fnP, fnK, startD, sSeq, sAsg, sPar, sRet, sRetN, sIf, sExpr, sPass, eV, Rs.out, Rs.bind, Rs.bindN, outO, gT, gTs, gN, Y.e1, Y.e2, eC, aN, aC, eTup, lLst, eFrz, eMut, oMul, oSub, oAdd, oEq, oNe, oLt, oLe, oGt, oGe, oIs, oIsNot, isN, oDiv, oMod, uNeg, uNot, uRev, eqD, ofO, finP, Y.tB, Y.tT, Y.tAnd, Y.tOr, Y.tNot, Y.tYes, eAnd, eOr, eIf, eCh, truth, eB, lB, eIs, eCall, lCall, instD, bLen, bInt, seqOf, lstOf, ownL, oIx, ixD, dctOf, atI, ixN, bMin, bMax, intsOf, minI, maxI, bAll, bAny, bools, lComp, compL, iA, unset, ll]
            · rw [if_neg fun z => d3 z.2.2.1]
              simp [b_u_law_at_two_3, d1, d2, d3, quadD, fnP, fnK, startD, sSeq, sAsg, sPar, sRet, sRetN, sIf, sExpr, sPass, eV, Rs.out, Rs.bind, Rs.bindN, outO, gT, gTs, gN, Y.e1, Y.e2, eC, aN, aC, eTup, lLst, eFrz, eMut, oMul, oSub, oAdd, oEq, oNe, oLt, oLe, oGt, oGe, oIs, oIsNot, isN, oDiv, oMod, uNeg, uNot, uRev, eqD, ofO, finP, Y.tB, Y.tT, Y.tAnd, Y.tOr, Y.tNot, Y.tYes, eAnd, eOr, eIf, eCh, truth, eB, lB, eIs, eCall, lCall, instD, bLen, bInt, seqOf, lstOf, ownL, oIx, ixD, dctOf, atI, ixN, bMin, bMax, intsOf, minI, maxI, bAll, bAny, bools, lComp, compL, iA, unset, ll]
          · rw [if_neg fun z => d2 z.2.1]
            simp [b_u_law_at_two_3, d1, d2, quadD, fnP, fnK, startD, sSeq, sAsg, sPar, sRet, sRetN, sIf, sExpr, sPass, eV, Rs.out, Rs.bind, Rs.bindN, outO, gT, gTs, gN, Y.e1, Y.e2, eC, aN, aC, eTup, lLst, eFrz, eMut, oMul, oSub, oAdd, oEq, oNe, oLt, oLe, oGt, oGe, oIs, oIsNot, isN, oDiv, oMod, uNeg, uNot, uRev, eqD, ofO, finP, Y.tB, Y.tT, Y.tAnd, Y.tOr, Y.tNot, Y.tYes, eAnd, eOr, eIf, eCh, truth, eB, lB, eIs, eCall, lCall, instD, bLen, bInt, seqOf, lstOf, ownL, oIx, ixD, dctOf, atI, ixN, bMin, bMax, intsOf, minI, maxI, bAll, bAny, bools, lComp, compL, iA, unset, ll]
        · rw [if_neg fun z => d1 z.1]
          simp [b_u_law_at_two_3, d1, quadD, fnP, fnK, startD, sSeq, sAsg, sPar, sRet, sRetN, sIf, sExpr, sPass, eV, Rs.out, Rs.bind, Rs.bindN, outO, gT, gTs, gN, Y.e1, Y.e2, eC, aN, aC, eTup, lLst, eFrz, eMut, oMul, oSub, oAdd, oEq, oNe, oLt, oLe, oGt, oGe, oIs, oIsNot, isN, oDiv, oMod, uNeg, uNot, uRev, eqD, ofO, finP, Y.tB, Y.tT, Y.tAnd, Y.tOr, Y.tNot, Y.tYes, eAnd, eOr, eIf, eCh, truth, eB, lB, eIs, eCall, lCall, instD, bLen, bInt, seqOf, lstOf, ownL, oIx, ixD, dctOf, atI, ixN, bMin, bMax, intsOf, minI, maxI, bAll, bAny, bools, lComp, compL, iA, unset, ll]
      · rw [if_pos (.inr (.inr c3))]
        simp [d_u_law_at_two, b_u_law_at_two, b_u_law_at_two_3, b_u_law_at_two_2, b_u_law_at_two_1, quadD, a1, a2, er, c1, c2, m0, m00, c3, fnP, fnK, startD, sSeq, sAsg, sPar, sRet, sRetN, sIf, sExpr, sPass, eV, Rs.out, Rs.bind, Rs.bindN, outO, gT, gTs, gN, Y.e1, Y.e2, eC, aN, aC, eTup, lLst, eFrz, eMut, oMul, oSub, oAdd, oEq, oNe, oLt, oLe, oGt, oGe, oIs, oIsNot, isN, oDiv, oMod, uNeg, uNot, uRev, eqD, ofO, finP, Y.tB, Y.tT, Y.tAnd, Y.tOr, Y.tNot, Y.tYes, eAnd, eOr, eIf, eCh, truth, eB, lB, eIs, eCall, lCall, instD, bLen, bInt, seqOf, lstOf, ownL, oIx, ixD, dctOf, atI, ixN, bMin, bMax, intsOf, minI, maxI, bAll, bAny, bools, lComp, compL, iA, unset, ll]
/-! ### rays at two -/
theorem sq_sq {q : Int} (q0 : 0 ≤ q) : sq (q * q) = q := by
  obtain ⟨a, b, c⟩ := sq_spec (x := q * q) (Int.mul_nonneg q0 q0)
  generalize sq (q * q) = s at *
  have h1 : s ≤ q := by
    by_cases z : s ≤ q
    · exact z
    · have := Int.mul_self_lt_mul_self q0 (show q < s by omega)
      omega
  have h2 : q ≤ s := by
    by_cases z : q ≤ s
    · exact z
    · have := Int.mul_self_le_mul_self (show (0 : Int) ≤ s + 1 by omega) (show s + 1 ≤ q by omega)
      omega
  omega
theorem rays2 (q0 : 0 ≤ l - m + 4) (e : 4 + 2 * (l - m) = k - m) : raysM k l m = some (l - m + 2, -2) := by
  have ex : xOf k l m = (l - m + 4) * (l - m + 4) := by unfold xOf; grind
  unfold raysM
  rw [ex, sq_sq q0, if_pos ⟨rfl, by omega⟩]
  congr 2 <;> omega
theorem is_two (s : Gd n k l m) (q0 : 0 ≤ l - m + 4) (e : 4 + 2 * (l - m) = k - m) (m1 : 1 ≤ m) : d_is_at_two [quad n k l m] h = .ok (.bl (dueB n k l m)) h := by
  have m2 : 0 < m := by omega
  simp [d_is_at_two, b_is_at_two, b_is_at_two_1, rays_in s, rays2 q0 e, pairD, m2, can_in s, fnP, fnK, startD, sSeq, sAsg, sPar, sRet, sRetN, sIf, sExpr, sPass, eV, Rs.out, Rs.bind, Rs.bindN, outO, gT, gTs, gN, Y.e1, Y.e2, eC, aN, aC, eTup, lLst, eFrz, eMut, oMul, oSub, oAdd, oEq, oNe, oLt, oLe, oGt, oGe, oIs, oIsNot, isN, oDiv, oMod, uNeg, uNot, uRev, eqD, ofO, finP, Y.tB, Y.tT, Y.tAnd, Y.tOr, Y.tNot, Y.tYes, eAnd, eOr, eIf, eCh, truth, eB, lB, eIs, eCall, lCall, instD, bLen, bInt, seqOf, lstOf, ownL, oIx, ixD, dctOf, atI, ixN, bMin, bMax, intsOf, minI, maxI, bAll, bAny, bools, lComp, compL, iA, unset, ll]
theorem is_two_no (s : Gd n k l m) {x : Option (Int × Int)} (e : raysM k l m = x) (hx : x = none ∨ (∃ a b, x = some (a, b) ∧ b ≠ -2) ∨ (∃ a b, x = some (a, b) ∧ (b = -2 → dueB n k l m = false) )) : d_is_at_two [quad n k l m] h = .ok (.bl false) h := by
  rcases hx with rfl | ⟨a, b, rfl, hb⟩ | ⟨a, b, rfl, hb⟩
  · simp [d_is_at_two, b_is_at_two, b_is_at_two_1, rays_in s, e, pairD, fnP, fnK, startD, sSeq, sAsg, sPar, sRet, sRetN, sIf, sExpr, sPass, eV, Rs.out, Rs.bind, Rs.bindN, outO, gT, gTs, gN, Y.e1, Y.e2, eC, aN, aC, eTup, lLst, eFrz, eMut, oMul, oSub, oAdd, oEq, oNe, oLt, oLe, oGt, oGe, oIs, oIsNot, isN, oDiv, oMod, uNeg, uNot, uRev, eqD, ofO, finP, Y.tB, Y.tT, Y.tAnd, Y.tOr, Y.tNot, Y.tYes, eAnd, eOr, eIf, eCh, truth, eB, lB, eIs, eCall, lCall, instD, bLen, bInt, seqOf, lstOf, ownL, oIx, ixD, dctOf, atI, ixN, bMin, bMax, intsOf, minI, maxI, bAll, bAny, bools, lComp, compL, iA, unset, ll]
  · simp [d_is_at_two, b_is_at_two, b_is_at_two_1, rays_in s, e, pairD, hb, fnP, fnK, startD, sSeq, sAsg, sPar, sRet, sRetN, sIf, sExpr, sPass, eV, Rs.out, Rs.bind, Rs.bindN, outO, gT, gTs, gN, Y.e1, Y.e2, eC, aN, aC, eTup, lLst, eFrz, eMut, oMul, oSub, oAdd, oEq, oNe, oLt, oLe, oGt, oGe, oIs, oIsNot, isN, oDiv, oMod, uNeg, uNot, uRev, eqD, ofO, finP, Y.tB, Y.tT, Y.tAnd, Y.tOr, Y.tNot, Y.tYes, eAnd, eOr, eIf, eCh, truth, eB, lB, eIs, eCall, lCall, instD, bLen, bInt, seqOf, lstOf, ownL, oIx, ixD, dctOf, atI, ixN, bMin, bMax, intsOf, minI, maxI, bAll, bAny, bools, lComp, compL, iA, unset, ll]
  · by_cases z : b = -2
    · by_cases z2 : 0 < m
      · simp [d_is_at_two, b_is_at_two, b_is_at_two_1, rays_in s, e, pairD, z, z2, can_in s, hb z, fnP, fnK, startD, sSeq, sAsg, sPar, sRet, sRetN, sIf, sExpr, sPass, eV, Rs.out, Rs.bind, Rs.bindN, outO, gT, gTs, gN, Y.e1, Y.e2, eC, aN, aC, eTup, lLst, eFrz, eMut, oMul, oSub, oAdd, oEq, oNe, oLt, oLe, oGt, oGe, oIs, oIsNot, isN, oDiv, oMod, uNeg, uNot, uRev, eqD, ofO, finP, Y.tB, Y.tT, Y.tAnd, Y.tOr, Y.tNot, Y.tYes, eAnd, eOr, eIf, eCh, truth, eB, lB, eIs, eCall, lCall, instD, bLen, bInt, seqOf, lstOf, ownL, oIx, ixD, dctOf, atI, ixN, bMin, bMax, intsOf, minI, maxI, bAll, bAny, bools, lComp, compL, iA, unset, ll]
      · simp [d_is_at_two, b_is_at_two, b_is_at_two_1, rays_in s, e, pairD, z, z2, fnP, fnK, startD, sSeq, sAsg, sPar, sRet, sRetN, sIf, sExpr, sPass, eV, Rs.out, Rs.bind, Rs.bindN, outO, gT, gTs, gN, Y.e1, Y.e2, eC, aN, aC, eTup, lLst, eFrz, eMut, oMul, oSub, oAdd, oEq, oNe, oLt, oLe, oGt, oGe, oIs, oIsNot, isN, oDiv, oMod, uNeg, uNot, uRev, eqD, ofO, finP, Y.tB, Y.tT, Y.tAnd, Y.tOr, Y.tNot, Y.tYes, eAnd, eOr, eIf, eCh, truth, eB, lB, eIs, eCall, lCall, instD, bLen, bInt, seqOf, lstOf, ownL, oIx, ixD, dctOf, atI, ixN, bMin, bMax, intsOf, minI, maxI, bAll, bAny, bools, lComp, compL, iA, unset, ll]
    · simp [d_is_at_two, b_is_at_two, b_is_at_two_1, rays_in s, e, pairD, z, fnP, fnK, startD, sSeq, sAsg, sPar, sRet, sRetN, sIf, sExpr, sPass, eV, Rs.out, Rs.bind, Rs.bindN, outO, gT, gTs, gN, Y.e1, Y.e2, eC, aN, aC, eTup, lLst, eFrz, eMut, oMul, oSub, oAdd, oEq, oNe, oLt, oLe, oGt, oGe, oIs, oIsNot, isN, oDiv, oMod, uNeg, uNot, uRev, eqD, ofO, finP, Y.tB, Y.tT, Y.tAnd, Y.tOr, Y.tNot, Y.tYes, eAnd, eOr, eIf, eCh, truth, eB, lB, eIs, eCall, lCall, instD, bLen, bInt, seqOf, lstOf, ownL, oIx, ixD, dctOf, atI, ixN, bMin, bMax, intsOf, minI, maxI, bAll, bAny, bools, lComp, compL, iA, unset, ll]
end
end K27
end

section
set_option maxRecDepth 100000
set_option linter.all false
set_option maxHeartbeats 2000000
namespace K27
open Y PySem L2
section
variable {n k l m r a : Int} {h : Hm}
theorem eq_quad {a b c d a' b' c' d' : Int} : oEq h (quad a b c d) (quad a' b' c' d') = some (.bl (decide (a = a' ∧ b = b' ∧ c = c' ∧ d = d'))) := by
  by_cases e1 : a = a' <;> by_cases e2 : b = b' <;> by_cases e3 : c = c' <;> by_cases e4 : d = d' <;>
    simp [oEq, eqD, py, pyL, SeqAt.shaped, PyData.canLay0, PyData.canLayAll0, PyData.depth, PyData.depthAll, PyData.eqv, PyData.eqvAll, e1, e2, e3, e4]
def Pf (n k l m a : Int) : Prop := n = a * (a - 1) / 2 ∧ k = 2 * (a - 2) ∧ l = a - 2 ∧ m = 4
def Ps (n k l m a : Int) : Prop := n = a * a ∧ k = 2 * (a - 1) ∧ l = a - 2 ∧ m = 2
instance : Decidable (Pf n k l m a) := by unfold Pf; infer_instance
instance : Decidable (Ps n k l m a) := by unfold Ps; infer_instance
abbrev wordD (x : Str) (i : Int) : D := .tup [.str x, .int i]
def kindM (n k l m : Int) (f : Int) : D :=
  if k = m ∧ n = k + 2 ∧ n % 2 = 0 then wordD "pairs" (n / 2)
  else if 4 < l + 2 ∧ Pf n k l m (l + 2) then wordD "full" (l + 2)
  else if 2 < l + 2 ∧ Ps n k l m (l + 2) then wordD "squares" (l + 2)
  else wordD "eight" (f + 1)
theorem kind_in (s : Gd n k l m) {f g : Int} (et : timesM n k l m = some (f, g)) : d_kind_in_told [quad n k l m] h = .ok (kindM n k l m f) h := by
  obtain ⟨k0, kn, l0, lk, m0, me, n1⟩ := id s
  have a1 : mulOk (l + 2) (l + 2 - 1) = true := mulOk_l (by omega) (by omega)
  have a2 : mulOk 2 (l + 2 - 2) = true := mulOk_l (by omega) (by omega)
  have a3 : mulOk 2 (l + 2 - 1) = true := mulOk_l (by omega) (by omega)
  have a4 : mulOk (l + 2) (l + 2) = true := mulOk_l (by omega) (by omega)
  have tm := times_in (h := h) s
  rw [et] at tm
  simp only [pairD] at tm
  have e1 : b_kind_in_told [some (quad n k l m), none, none, none, none, none] h = (if k = m ∧ n = k + 2 ∧ n % 2 = 0 then .rt (wordD "pairs" (n / 2)) h else b_kind_in_told_3 [some (quad n k l m), some (.int n), some (.int k), some (.int l), some (.int m), some (.int (l + 2))] h) := by
    by_cases c1 : k = m
    · by_cases c2 : n = k + 2
      · by_cases c3 : n % 2 = 0
        · rw [if_pos ⟨c1, c2, c3⟩]
          have c5 : m = k := c1.symm
          subst c5 c2
          simp [b_kind_in_told, b_kind_in_told_1, b_kind_in_told_2, fnP, fnK, startD, sSeq, sAsg, sPar, sRet, sRetN, sIf, sExpr, sPass, eV, Rs.out, Rs.bind, Rs.bindN, outO, gT, gTs, gN, Y.e1, Y.e2, eC, aN, aC, eTup, lLst, eFrz, eMut, oMul, oSub, oAdd, oEq, oNe, oLt, oLe, oGt, oGe, oIs, oIsNot, isN, oDiv, oMod, uNeg, uNot, uRev, eqD, ofO, finP, Y.tB, Y.tT, Y.tAnd, Y.tOr, Y.tNot, Y.tYes, eAnd, eOr, eIf, eCh, truth, eB, lB, eIs, eCall, lCall, instD, bLen, bInt, seqOf, lstOf, ownL, oIx, ixD, dctOf, atI, ixN, bMin, bMax, intsOf, minI, maxI, bAll, bAny, bools, lComp, compL, iA, unset, ll, c3]
        · rw [if_neg fun z => c3 z.2.2]
          simp [b_kind_in_told, b_kind_in_told_1, b_kind_in_told_2, fnP, fnK, startD, sSeq, sAsg, sPar, sRet, sRetN, sIf, sExpr, sPass, eV, Rs.out, Rs.bind, Rs.bindN, outO, gT, gTs, gN, Y.e1, Y.e2, eC, aN, aC, eTup, lLst, eFrz, eMut, oMul, oSub, oAdd, oEq, oNe, oLt, oLe, oGt, oGe, oIs, oIsNot, isN, oDiv, oMod, uNeg, uNot, uRev, eqD, ofO, finP, Y.tB, Y.tT, Y.tAnd, Y.tOr, Y.tNot, Y.tYes, eAnd, eOr, eIf, eCh, truth, eB, lB, eIs, eCall, lCall, instD, bLen, bInt, seqOf, lstOf, ownL, oIx, ixD, dctOf, atI, ixN, bMin, bMax, intsOf, minI, maxI, bAll, bAny, bools, lComp, compL, iA, unset, ll, c3]
      · rw [if_neg fun z => c2 z.2.1]
        simp [b_kind_in_told, b_kind_in_told_1, b_kind_in_told_2, fnP, fnK, startD, sSeq, sAsg, sPar, sRet, sRetN, sIf, sExpr, sPass, eV, Rs.out, Rs.bind, Rs.bindN, outO, gT, gTs, gN, Y.e1, Y.e2, eC, aN, aC, eTup, lLst, eFrz, eMut, oMul, oSub, oAdd, oEq, oNe, oLt, oLe, oGt, oGe, oIs, oIsNot, isN, oDiv, oMod, uNeg, uNot, uRev, eqD, ofO, finP, Y.tB, Y.tT, Y.tAnd, Y.tOr, Y.tNot, Y.tYes, eAnd, eOr, eIf, eCh, truth, eB, lB, eIs, eCall, lCall, instD, bLen, bInt, seqOf, lstOf, ownL, oIx, ixD, dctOf, atI, ixN, bMin, bMax, intsOf, minI, maxI, bAll, bAny, bools, lComp, compL, iA, unset, ll, c2]
    · rw [if_neg fun z => c1 z.1]
      simp [b_kind_in_told, b_kind_in_told_1, b_kind_in_told_2, fnP, fnK, startD, sSeq, sAsg, sPar, sRet, sRetN, sIf, sExpr, sPass, eV, Rs.out, Rs.bind, Rs.bindN, outO, gT, gTs, gN, Y.e1, Y.e2, eC, aN, aC, eTup, lLst, eFrz, eMut, oMul, oSub, oAdd, oEq, oNe, oLt, oLe, oGt, oGe, oIs, oIsNot, isN, oDiv, oMod, uNeg, uNot, uRev, eqD, ofO, finP, Y.tB, Y.tT, Y.tAnd, Y.tOr, Y.tNot, Y.tYes, eAnd, eOr, eIf, eCh, truth, eB, lB, eIs, eCall, lCall, instD, bLen, bInt, seqOf, lstOf, ownL, oIx, ixD, dctOf, atI, ixN, bMin, bMax, intsOf, minI, maxI, bAll, bAny, bools, lComp, compL, iA, unset, ll, c1]
  have eqf : oEq h (quad n k l m) (quad ((l + 2) * (l + 2 - 1) / 2) (2 * (l + 2 - 2)) (l + 2 - 2) 4) = some (.bl (decide (Pf n k l m (l + 2)))) := eq_quad
  have eqs : oEq h (quad n k l m) (quad ((l + 2) * (l + 2)) (2 * (l + 2 - 1)) (l + 2 - 2) 2) = some (.bl (decide (Ps n k l m (l + 2)))) := eq_quad
  unfold d_kind_in_told fnP kindM
  rw [show startD 6 [quad n k l m] = [some (quad n k l m), none, none, none, none, none] from rfl, e1]
  by_cases c : k = m ∧ n = k + 2 ∧ n % 2 = 0
  · rw [if_pos c, if_pos c]
    simp [finP]
  · rw [if_neg c, if_neg c]
    have e5 : b_kind_in_told_5 [some (quad n k l m), some (.int n), some (.int k), some (.int l), some (.int m), some (.int (l + 2))] h = .rt (wordD "eight" (f + 1)) h := by
      simp [b_kind_in_told_5, tm, fnP, fnK, startD, sSeq, sAsg, sPar, sRet, sRetN, sIf, sExpr, sPass, eV, Rs.out, Rs.bind, Rs.bindN, outO, gT, gTs, gN, Y.e1, Y.e2, eC, aN, aC, eTup, lLst, eFrz, eMut, oMul, oSub, oAdd, oEq, oNe, oLt, oLe, oGt, oGe, oIs, oIsNot, isN, oDiv, oMod, uNeg, uNot, uRev, eqD, ofO, finP, Y.tB, Y.tT, Y.tAnd, Y.tOr, Y.tNot, Y.tYes, eAnd, eOr, eIf, eCh, truth, eB, lB, eIs, eCall, lCall, instD, bLen, bInt, seqOf, lstOf, ownL, oIx, ixD, dctOf, atI, ixN, bMin, bMax, intsOf, minI, maxI, bAll, bAny, bools, lComp, compL, iA, unset, ll]
    have e4 : b_kind_in_told_4 [some (quad n k l m), some (.int n), some (.int k), some (.int l), some (.int m), some (.int (l + 2))] h = (if 2 < l + 2 ∧ Ps n k l m (l + 2) then .rt (wordD "squares" (l + 2)) h else .rt (wordD "eight" (f + 1)) h) := by
      generalize l + 2 = a at *
      by_cases c1 : 2 < a
      · by_cases c2 : Ps n k l m a
        · rw [if_pos ⟨c1, c2⟩]
          rw [decide_eq_true c2] at eqs
          simp [b_kind_in_told_4, a1, a2, a3, a4, eqs, c1, fnP, fnK, startD, sSeq, sAsg, sPar, sRet, sRetN, sIf, sExpr, sPass, eV, Rs.out, Rs.bind, Rs.bindN, outO, gT, gTs, gN, Y.e1, Y.e2, eC, aN, aC, eTup, lLst, eFrz, eMut, oMul, oSub, oAdd, oNe, oLt, oLe, oGt, oGe, oIs, oIsNot, isN, oDiv, oMod, uNeg, uNot, uRev, ofO, finP, Y.tB, Y.tT, Y.tAnd, Y.tOr, Y.tNot, Y.tYes, eAnd, eOr, eIf, eCh, truth, eB, lB, eIs, eCall, lCall, instD, bLen, bInt, seqOf, lstOf, ownL, oIx, ixD, dctOf, atI, ixN, bMin, bMax, intsOf, minI, maxI, bAll, bAny, bools, lComp, compL, iA, unset, ll]
        · rw [if_neg fun z => c2 z.2]
          rw [decide_eq_false c2] at eqs
          simp [b_kind_in_told_4, a1, a2, a3, a4, eqs, c1, e5, fnP, fnK, startD, sSeq, sAsg, sPar, sRet, sRetN, sIf, sExpr, sPass, eV, Rs.out, Rs.bind, Rs.bindN, outO, gT, gTs, gN, Y.e1, Y.e2, eC, aN, aC, eTup, lLst, eFrz, eMut, oMul, oSub, oAdd, oNe, oLt, oLe, oGt, oGe, oIs, oIsNot, isN, oDiv, oMod, uNeg, uNot, uRev, ofO, finP, Y.tB, Y.tT, Y.tAnd, Y.tOr, Y.tNot, Y.tYes, eAnd, eOr, eIf, eCh, truth, eB, lB, eIs, eCall, lCall, instD, bLen, bInt, seqOf, lstOf, ownL, oIx, ixD, dctOf, atI, ixN, bMin, bMax, intsOf, minI, maxI, bAll, bAny, bools, lComp, compL, iA, unset, ll]
      · rw [if_neg fun z => c1 z.1]
        simp [b_kind_in_told_4, c1, e5, fnP, fnK, startD, sSeq, sAsg, sPar, sRet, sRetN, sIf, sExpr, sPass, eV, Rs.out, Rs.bind, Rs.bindN, outO, gT, gTs, gN, Y.e1, Y.e2, eC, aN, aC, eTup, lLst, eFrz, eMut, oMul, oSub, oAdd, oNe, oLt, oLe, oGt, oGe, oIs, oIsNot, isN, oDiv, oMod, uNeg, uNot, uRev, ofO, finP, Y.tB, Y.tT, Y.tAnd, Y.tOr, Y.tNot, Y.tYes, eAnd, eOr, eIf, eCh, truth, eB, lB, eIs, eCall, lCall, instD, bLen, bInt, seqOf, lstOf, ownL, oIx, ixD, dctOf, atI, ixN, bMin, bMax, intsOf, minI, maxI, bAll, bAny, bools, lComp, compL, iA, unset, ll]
    have e3 : b_kind_in_told_3 [some (quad n k l m), some (.int n), some (.int k), some (.int l), some (.int m), some (.int (l + 2))] h = (if 4 < l + 2 ∧ Pf n k l m (l + 2) then .rt (wordD "full" (l + 2)) h else if 2 < l + 2 ∧ Ps n k l m (l + 2) then .rt (wordD "squares" (l + 2)) h else .rt (wordD "eight" (f + 1)) h) := by
      rw [← e4]
      generalize l + 2 = a at *
      by_cases c1 : 4 < a
      · by_cases c2 : Pf n k l m a
        · rw [if_pos ⟨c1, c2⟩]
          rw [decide_eq_true c2] at eqf
          simp [b_kind_in_told_3, a1, a2, a3, a4, eqf, c1, fnP, fnK, startD, sSeq, sAsg, sPar, sRet, sRetN, sIf, sExpr, sPass, eV, Rs.out, Rs.bind, Rs.bindN, outO, gT, gTs, gN, Y.e1, Y.e2, eC, aN, aC, eTup, lLst, eFrz, eMut, oMul, oSub, oAdd, oNe, oLt, oLe, oGt, oGe, oIs, oIsNot, isN, oDiv, oMod, uNeg, uNot, uRev, ofO, finP, Y.tB, Y.tT, Y.tAnd, Y.tOr, Y.tNot, Y.tYes, eAnd, eOr, eIf, eCh, truth, eB, lB, eIs, eCall, lCall, instD, bLen, bInt, seqOf, lstOf, ownL, oIx, ixD, dctOf, atI, ixN, bMin, bMax, intsOf, minI, maxI, bAll, bAny, bools, lComp, compL, iA, unset, ll]
        · rw [if_neg fun z => c2 z.2]
          rw [decide_eq_false c2] at eqf
          simp [b_kind_in_told_3, a1, a2, a3, a4, eqf, c1, fnP, fnK, startD, sSeq, sAsg, sPar, sRet, sRetN, sIf, sExpr, sPass, eV, Rs.out, Rs.bind, Rs.bindN, outO, gT, gTs, gN, Y.e1, Y.e2, eC, aN, aC, eTup, lLst, eFrz, eMut, oMul, oSub, oAdd, oNe, oLt, oLe, oGt, oGe, oIs, oIsNot, isN, oDiv, oMod, uNeg, uNot, uRev, ofO, finP, Y.tB, Y.tT, Y.tAnd, Y.tOr, Y.tNot, Y.tYes, eAnd, eOr, eIf, eCh, truth, eB, lB, eIs, eCall, lCall, instD, bLen, bInt, seqOf, lstOf, ownL, oIx, ixD, dctOf, atI, ixN, bMin, bMax, intsOf, minI, maxI, bAll, bAny, bools, lComp, compL, iA, unset, ll]
      · rw [if_neg fun z => c1 z.1]
        simp [b_kind_in_told_3, c1, fnP, fnK, startD, sSeq, sAsg, sPar, sRet, sRetN, sIf, sExpr, sPass, eV, Rs.out, Rs.bind, Rs.bindN, outO, gT, gTs, gN, Y.e1, Y.e2, eC, aN, aC, eTup, lLst, eFrz, eMut, oMul, oSub, oAdd, oNe, oLt, oLe, oGt, oGe, oIs, oIsNot, isN, oDiv, oMod, uNeg, uNot, uRev, ofO, finP, Y.tB, Y.tT, Y.tAnd, Y.tOr, Y.tNot, Y.tYes, eAnd, eOr, eIf, eCh, truth, eB, lB, eIs, eCall, lCall, instD, bLen, bInt, seqOf, lstOf, ownL, oIx, ixD, dctOf, atI, ixN, bMin, bMax, intsOf, minI, maxI, bAll, bAny, bools, lComp, compL, iA, unset, ll]
    rw [e3]
    by_cases d1 : 4 < l + 2 ∧ Pf n k l m (l + 2)
    · rw [if_pos d1, if_pos d1]
      simp [finP]
    · rw [if_neg d1, if_neg d1]
      by_cases d2 : 2 < l + 2 ∧ Ps n k l m (l + 2)
      · rw [if_pos d2, if_pos d2]
        simp [finP]
      · rw [if_neg d2, if_neg d2]
        simp [finP]
theorem kind_yes (s : Gd n k l m) (q0 : 0 ≤ l - m + 4) (e : 4 + 2 * (l - m) = k - m) (m1 : 1 ≤ m) (d : dueB n k l m = true) {f g : Int} (et : timesM n k l m = some (f, g)) : d_kind_at_two [quad n k l m] h = .ok (kindM n k l m f) h := by
  have i := is_two (h := h) s q0 e m1
  rw [d] at i
  simp [d_kind_at_two, b_kind_at_two, b_kind_at_two_1, need s, i, kind_in s et, fnP, fnK, startD, sSeq, sAsg, sPar, sRet, sRetN, sIf, sExpr, sPass, eV, Rs.out, Rs.bind, Rs.bindN, outO, gT, gTs, gN, Y.e1, Y.e2, eC, aN, aC, eTup, lLst, eFrz, eMut, oMul, oSub, oAdd, oEq, oNe, oLt, oLe, oGt, oGe, oIs, oIsNot, isN, oDiv, oMod, uNeg, uNot, uRev, eqD, ofO, finP, Y.tB, Y.tT, Y.tAnd, Y.tOr, Y.tNot, Y.tYes, eAnd, eOr, eIf, eCh, truth, eB, lB, eIs, eCall, lCall, instD, bLen, bInt, seqOf, lstOf, ownL, oIx, ixD, dctOf, atI, ixN, bMin, bMax, intsOf, minI, maxI, bAll, bAny, bools, lComp, compL, iA, unset, ll]
theorem kind_no (s : Gd n k l m) (i : d_is_at_two [quad n k l m] h = .ok (.bl false) h) : d_kind_at_two [quad n k l m] h = .ok .non h := by
  simp [d_kind_at_two, b_kind_at_two, b_kind_at_two_1, need s, i, fnP, fnK, startD, sSeq, sAsg, sPar, sRet, sRetN, sIf, sExpr, sPass, eV, Rs.out, Rs.bind, Rs.bindN, outO, gT, gTs, gN, Y.e1, Y.e2, eC, aN, aC, eTup, lLst, eFrz, eMut, oMul, oSub, oAdd, oEq, oNe, oLt, oLe, oGt, oGe, oIs, oIsNot, isN, oDiv, oMod, uNeg, uNot, uRev, eqD, ofO, finP, Y.tB, Y.tT, Y.tAnd, Y.tOr, Y.tNot, Y.tYes, eAnd, eOr, eIf, eCh, truth, eB, lB, eIs, eCall, lCall, instD, bLen, bInt, seqOf, lstOf, ownL, oIx, ixD, dctOf, atI, ixN, bMin, bMax, intsOf, minI, maxI, bAll, bAny, bools, lComp, compL, iA, unset, ll]
theorem due_times (d : dueB n k l m = true) : ∃ f g, timesM n k l m = some (f, g) := by
  unfold dueB at d
  split at d
  · cases e : timesM n k l m with
    | none => rw [e] at d; cases d
    | some p => exact ⟨p.1, p.2, rfl⟩
  · cases d
theorem due_bal (d : dueB n k l m = true) : k * (k - l - 1) = (n - k - 1) * m := by
  unfold dueB at d
  split at d
  · rename_i c; exact c.1
  · cases d
/-! ### the law's own kind -/
theorem lk1 (s : Gd n k l m) : ∀ (as : List Int) (y : Option D), (∀ a ∈ as, 0 ≤ a ∧ a < 1000) →
    (∃ a ∈ as, Pf n k l m a ∧ forL (gN 5) b_u_law_kind_l1 (as.map .int) [some (quad n k l m), some (.int n), some (.int k), some (.int l), some (.int m), y] h = .rt (wordD "full" a) h) ∨
    ((∀ a ∈ as, ¬ Pf n k l m a) ∧ ∃ y', forL (gN 5) b_u_law_kind_l1 (as.map .int) [some (quad n k l m), some (.int n), some (.int k), some (.int l), some (.int m), y] h = .nx [some (quad n k l m), some (.int n), some (.int k), some (.int l), some (.int m), y'] h)
  | [], y, _ => .inr ⟨fun f m => by simp at m, y, rfl⟩
  | a :: as, y, ha => by
    have a0 := ha a List.mem_cons_self
    have a1 : mulOk a (a - 1) = true := mulOk_l (by omega) (by omega)
    have a2 : mulOk 2 (a - 2) = true := mulOk_l (by omega) (by omega)
    have eqf : oEq h (quad n k l m) (quad (a * (a - 1) / 2) (2 * (a - 2)) (a - 2) 4) = some (.bl (decide (Pf n k l m a))) := eq_quad
    by_cases c : Pf n k l m a
    · refine .inl ⟨a, List.mem_cons_self, c, ?_⟩
      rw [decide_eq_true c] at eqf
      simp [forL, b_u_law_kind_l1, a1, a2, eqf, fnP, fnK, startD, sSeq, sAsg, sPar, sRet, sRetN, sIf, sExpr, sPass, eV, Rs.out, Rs.bind, Rs.bindN, outO, gT, gTs, gN, Y.e1, Y.e2, eC, aN, aC, eTup, lLst, eFrz, eMut, oMul, oSub, oAdd, oNe, oLt, oLe, oGt, oGe, oIs, oIsNot, isN, oDiv, oMod, uNeg, uNot, uRev, ofO, finP, Y.tB, Y.tT, Y.tAnd, Y.tOr, Y.tNot, Y.tYes, eAnd, eOr, eIf, eCh, truth, eB, lB, eIs, eCall, lCall, instD, bLen, bInt, seqOf, lstOf, ownL, oIx, ixD, dctOf, atI, ixN, bMin, bMax, intsOf, minI, maxI, bAll, bAny, bools, lComp, compL, iA, unset, ll]
    · rw [decide_eq_false c] at eqf
      have st : forL (gN 5) b_u_law_kind_l1 ((a :: as).map .int) [some (quad n k l m), some (.int n), some (.int k), some (.int l), some (.int m), y] h = forL (gN 5) b_u_law_kind_l1 (as.map .int) [some (quad n k l m), some (.int n), some (.int k), some (.int l), some (.int m), some (.int a)] h := by
        have st1 : b_u_law_kind_l1 [some (quad n k l m), some (.int n), some (.int k), some (.int l), some (.int m), some (.int a)] h = .nx [some (quad n k l m), some (.int n), some (.int k), some (.int l), some (.int m), some (.int a)] h := by
          simp [b_u_law_kind_l1, a1, a2, eqf, fnP, fnK, startD, sSeq, sAsg, sPar, sRet, sRetN, sIf, sExpr, sPass, eV, Rs.out, Rs.bind, Rs.bindN, outO, gT, gTs, gN, Y.e1, Y.e2, eC, aN, aC, eTup, lLst, eFrz, eMut, oMul, oSub, oAdd, oNe, oLt, oLe, oGt, oGe, oIs, oIsNot, isN, oDiv, oMod, uNeg, uNot, uRev, ofO, finP, Y.tB, Y.tT, Y.tAnd, Y.tOr, Y.tNot, Y.tYes, eAnd, eOr, eIf, eCh, truth, eB, lB, eIs, eCall, lCall, instD, bLen, bInt, seqOf, lstOf, ownL, oIx, ixD, dctOf, atI, ixN, bMin, bMax, intsOf, minI, maxI, bAll, bAny, bools, lComp, compL, iA, unset, ll]
        simp [forL, gN, st1]
      rw [st]
      rcases lk1 s as (some (.int a)) (fun x hx => ha x (List.mem_cons_of_mem _ hx)) with ⟨x, hx, h1, h2⟩ | ⟨h1, h2⟩
      · exact .inl ⟨x, List.mem_cons_of_mem _ hx, h1, h2⟩
      · refine .inr ⟨fun x hx => ?_, h2⟩
        rcases List.mem_cons.mp hx with rfl | hx
        · exact c
        · exact h1 x hx
theorem lk2 (s : Gd n k l m) : ∀ (as : List Int) (y : Option D), (∀ a ∈ as, 0 ≤ a ∧ a < 1000) →
    (∃ a ∈ as, Ps n k l m a ∧ forL (gN 5) b_u_law_kind_l2 (as.map .int) [some (quad n k l m), some (.int n), some (.int k), some (.int l), some (.int m), y] h = .rt (wordD "squares" a) h) ∨
    ((∀ a ∈ as, ¬ Ps n k l m a) ∧ ∃ y', forL (gN 5) b_u_law_kind_l2 (as.map .int) [some (quad n k l m), some (.int n), some (.int k), some (.int l), some (.int m), y] h = .nx [some (quad n k l m), some (.int n), some (.int k), some (.int l), some (.int m), y'] h)
  | [], y, _ => .inr ⟨fun f m => by simp at m, y, rfl⟩
  | a :: as, y, ha => by
    have a0 := ha a List.mem_cons_self
    have a1 : mulOk a a = true := mulOk_l (by omega) (by omega)
    have a2 : mulOk 2 (a - 1) = true := mulOk_l (by omega) (by omega)
    have eqf : oEq h (quad n k l m) (quad (a * a) (2 * (a - 1)) (a - 2) 2) = some (.bl (decide (Ps n k l m a))) := eq_quad
    by_cases c : Ps n k l m a
    · refine .inl ⟨a, List.mem_cons_self, c, ?_⟩
      rw [decide_eq_true c] at eqf
      simp [forL, b_u_law_kind_l2, a1, a2, eqf, fnP, fnK, startD, sSeq, sAsg, sPar, sRet, sRetN, sIf, sExpr, sPass, eV, Rs.out, Rs.bind, Rs.bindN, outO, gT, gTs, gN, Y.e1, Y.e2, eC, aN, aC, eTup, lLst, eFrz, eMut, oMul, oSub, oAdd, oNe, oLt, oLe, oGt, oGe, oIs, oIsNot, isN, oDiv, oMod, uNeg, uNot, uRev, ofO, finP, Y.tB, Y.tT, Y.tAnd, Y.tOr, Y.tNot, Y.tYes, eAnd, eOr, eIf, eCh, truth, eB, lB, eIs, eCall, lCall, instD, bLen, bInt, seqOf, lstOf, ownL, oIx, ixD, dctOf, atI, ixN, bMin, bMax, intsOf, minI, maxI, bAll, bAny, bools, lComp, compL, iA, unset, ll]
    · rw [decide_eq_false c] at eqf
      have st : forL (gN 5) b_u_law_kind_l2 ((a :: as).map .int) [some (quad n k l m), some (.int n), some (.int k), some (.int l), some (.int m), y] h = forL (gN 5) b_u_law_kind_l2 (as.map .int) [some (quad n k l m), some (.int n), some (.int k), some (.int l), some (.int m), some (.int a)] h := by
        have st1 : b_u_law_kind_l2 [some (quad n k l m), some (.int n), some (.int k), some (.int l), some (.int m), some (.int a)] h = .nx [some (quad n k l m), some (.int n), some (.int k), some (.int l), some (.int m), some (.int a)] h := by
          simp [b_u_law_kind_l2, a1, a2, eqf, fnP, fnK, startD, sSeq, sAsg, sPar, sRet, sRetN, sIf, sExpr, sPass, eV, Rs.out, Rs.bind, Rs.bindN, outO, gT, gTs, gN, Y.e1, Y.e2, eC, aN, aC, eTup, lLst, eFrz, eMut, oMul, oSub, oAdd, oNe, oLt, oLe, oGt, oGe, oIs, oIsNot, isN, oDiv, oMod, uNeg, uNot, uRev, ofO, finP, Y.tB, Y.tT, Y.tAnd, Y.tOr, Y.tNot, Y.tYes, eAnd, eOr, eIf, eCh, truth, eB, lB, eIs, eCall, lCall, instD, bLen, bInt, seqOf, lstOf, ownL, oIx, ixD, dctOf, atI, ixN, bMin, bMax, intsOf, minI, maxI, bAll, bAny, bools, lComp, compL, iA, unset, ll]
        simp [forL, gN, st1]
      rw [st]
      rcases lk2 s as (some (.int a)) (fun x hx => ha x (List.mem_cons_of_mem _ hx)) with ⟨x, hx, h1, h2⟩ | ⟨h1, h2⟩
      · exact .inl ⟨x, List.mem_cons_of_mem _ hx, h1, h2⟩
      · refine .inr ⟨fun x hx => ?_, h2⟩
        rcases List.mem_cons.mp hx with rfl | hx
        · exact c
        · exact h1 x hx
def intsF (lo : Int) (n : Nat) : List Int := (List.range n).map fun i : Nat => lo + i
theorem range_ints (lo : Int) (n : Nat) : rangeD lo n = (intsF lo n).map D.int := by simp [rangeD, intsF]
theorem mem_ints {lo a : Int} {n : Nat} : a ∈ intsF lo n ↔ lo ≤ a ∧ a < lo + n := by
  simp only [intsF, List.mem_map, List.mem_range]
  constructor
  · rintro ⟨i, hi, rfl⟩; omega
  · rintro ⟨h1, h2⟩; exact ⟨(a - lo).toNat, by omega, by omega⟩
theorem law_kind (s : Gd n k l m) (hl : l < 37) (hb : k * (k - l - 1) = (n - k - 1) * m) (hp : k = m → n = k + 2 ∧ n % 2 = 0) {f g : Int} (et : timesM n k l m = some (f, g)) : d_u_law_kind [quad n k l m] h = .ok (kindM n k l m f) h := by
  obtain ⟨k0, kn, l0, lk, m0, me, n1⟩ := id s
  have tm := times_ok (h := h) s hb
  rw [et] at tm
  simp only [pairD] at tm
  have e0 : b_u_law_kind [some (quad n k l m), none, none, none, none, none] h = b_u_law_kind_1 [some (quad n k l m), some (.int n), some (.int k), some (.int l), some (.int m), none] h := by
    simp [b_u_law_kind, fnP, fnK, startD, sSeq, sAsg, sPar, sRet, sRetN, sIf, sExpr, sPass, eV, Rs.out, Rs.bind, Rs.bindN, outO, gT, gTs, gN, Y.e1, Y.e2, eC, aN, aC, eTup, lLst, eFrz, eMut, oMul, oSub, oAdd, oEq, oNe, oLt, oLe, oGt, oGe, oIs, oIsNot, isN, oDiv, oMod, uNeg, uNot, uRev, eqD, ofO, finP, Y.tB, Y.tT, Y.tAnd, Y.tOr, Y.tNot, Y.tYes, eAnd, eOr, eIf, eCh, truth, eB, lB, eIs, eCall, lCall, instD, bLen, bInt, seqOf, lstOf, ownL, oIx, ixD, dctOf, atI, ixN, bMin, bMax, intsOf, minI, maxI, bAll, bAny, bools, lComp, compL, iA, unset, ll]
  unfold d_u_law_kind fnP kindM
  rw [show startD 6 [quad n k l m] = [some (quad n k l m), none, none, none, none, none] from rfl, e0]
  by_cases c1 : k = m
  · obtain ⟨c2, c3⟩ := hp c1
    rw [if_pos ⟨c1, c2, c3⟩]
    have c4 : (m + 2) % 2 = 0 := by rw [← c1, ← c2]; exact c3
    simp [b_u_law_kind_1, c1, c2, c4, fnP, fnK, startD, sSeq, sAsg, sPar, sRet, sRetN, sIf, sExpr, sPass, eV, Rs.out, Rs.bind, Rs.bindN, outO, gT, gTs, gN, Y.e1, Y.e2, eC, aN, aC, eTup, lLst, eFrz, eMut, oMul, oSub, oAdd, oEq, oNe, oLt, oLe, oGt, oGe, oIs, oIsNot, isN, oDiv, oMod, uNeg, uNot, uRev, eqD, ofO, finP, Y.tB, Y.tT, Y.tAnd, Y.tOr, Y.tNot, Y.tYes, eAnd, eOr, eIf, eCh, truth, eB, lB, eIs, eCall, lCall, instD, bLen, bInt, seqOf, lstOf, ownL, oIx, ixD, dctOf, atI, ixN, bMin, bMax, intsOf, minI, maxI, bAll, bAny, bools, lComp, compL, iA, unset, ll]
  · rw [if_neg fun z => c1 z.1]
    have e2 : b_u_law_kind_1 [some (quad n k l m), some (.int n), some (.int k), some (.int l), some (.int m), none] h = b_u_law_kind_2 [some (quad n k l m), some (.int n), some (.int k), some (.int l), some (.int m), none] h := by
      simp [b_u_law_kind_1, c1, fnP, fnK, startD, sSeq, sAsg, sPar, sRet, sRetN, sIf, sExpr, sPass, eV, Rs.out, Rs.bind, Rs.bindN, outO, gT, gTs, gN, Y.e1, Y.e2, eC, aN, aC, eTup, lLst, eFrz, eMut, oMul, oSub, oAdd, oEq, oNe, oLt, oLe, oGt, oGe, oIs, oIsNot, isN, oDiv, oMod, uNeg, uNot, uRev, eqD, ofO, finP, Y.tB, Y.tT, Y.tAnd, Y.tOr, Y.tNot, Y.tYes, eAnd, eOr, eIf, eCh, truth, eB, lB, eIs, eCall, lCall, instD, bLen, bInt, seqOf, lstOf, ownL, oIx, ixD, dctOf, atI, ixN, bMin, bMax, intsOf, minI, maxI, bAll, bAny, bools, lComp, compL, iA, unset, ll]
    have e3 : ∀ y, b_u_law_kind_2 [some (quad n k l m), some (.int n), some (.int k), some (.int l), some (.int m), y] h = (match forL (gN 5) b_u_law_kind_l1 ((intsF 5 35).map .int) [some (quad n k l m), some (.int n), some (.int k), some (.int l), some (.int m), y] h with | .nx σ h => b_u_law_kind_3 σ h | o => o) := fun y => by
      rw [← range_ints]
      simp [b_u_law_kind_2, sSeq, sFor, iR2, aC, aN, eC, Rs.bind, Rs.out, small]
      try rfl
    have e4 : ∀ y, b_u_law_kind_3 [some (quad n k l m), some (.int n), some (.int k), some (.int l), some (.int m), y] h = (match forL (gN 5) b_u_law_kind_l2 ((intsF 3 37).map .int) [some (quad n k l m), some (.int n), some (.int k), some (.int l), some (.int m), y] h with | .nx σ h => b_u_law_kind_4 σ h | o => o) := fun y => by
      rw [← range_ints]
      simp [b_u_law_kind_3, sSeq, sFor, iR2, aC, aN, eC, Rs.bind, Rs.out, small]
      try rfl
    rw [e2, e3]
    rcases lk1 (h := h) s (intsF 5 35) none (fun a ha => by have := mem_ints.mp ha; omega) with ⟨a, ha, h1, h2⟩ | ⟨h1, y', h2⟩
    · have a0 := mem_ints.mp ha
      have ea : l + 2 = a := by have := h1.2.2.1; omega
      rw [h2, if_pos ⟨by omega, by rw [ea]; exact h1⟩, ea]
      simp [finP]
    · rw [h2, if_neg fun z => h1 (l + 2) (mem_ints.mpr ⟨by omega, by omega⟩) z.2]
      dsimp only
      rw [e4]
      rcases lk2 (h := h) s (intsF 3 37) y' (fun a ha => by have := mem_ints.mp ha; omega) with ⟨a, ha, h3, h4⟩ | ⟨h3, y2, h4⟩
      · have a0 := mem_ints.mp ha
        have ea : l + 2 = a := by have := h3.2.2.1; omega
        rw [h4, if_pos ⟨by omega, by rw [ea]; exact h3⟩, ea]
        simp [finP]
      · rw [h4, if_neg fun z => h3 (l + 2) (mem_ints.mpr ⟨by omega, by omega⟩) z.2]
        simp [b_u_law_kind_4, tm, fnP, fnK, startD, sSeq, sAsg, sPar, sRet, sRetN, sIf, sExpr, sPass, eV, Rs.out, Rs.bind, Rs.bindN, outO, gT, gTs, gN, Y.e1, Y.e2, eC, aN, aC, eTup, lLst, eFrz, eMut, oMul, oSub, oAdd, oEq, oNe, oLt, oLe, oGt, oGe, oIs, oIsNot, isN, oDiv, oMod, uNeg, uNot, uRev, eqD, ofO, finP, Y.tB, Y.tT, Y.tAnd, Y.tOr, Y.tNot, Y.tYes, eAnd, eOr, eIf, eCh, truth, eB, lB, eIs, eCall, lCall, instD, bLen, bInt, seqOf, lstOf, ownL, oIx, ixD, dctOf, atI, ixN, bMin, bMax, intsOf, minI, maxI, bAll, bAny, bools, lComp, compL, iA, unset, ll]
end
end K27
end

section
set_option maxRecDepth 100000
set_option linter.all false
set_option maxHeartbeats 4000000
namespace K27
open Y PySem L2
def selF (most k r : Int) : List (List Int) := match atM k r with
  | none => []
  | some (n, k, l, m) => if n ≤ most ∧ dueB n k l m = true then (match timesM n k l m with
    | some (f, _) => if f ≤ 7 then [[n, k, l, m]] else []
    | none => []) else []
def accF (most : Int) : List (List Int) := (intsF 1 (most - 1).toNat).flatMap fun k => (intsF 0 (k / 2 + 1).toNat).flatMap (selF most k)
def selL (most k l m : Int) : List (List Int) := if 4 + 2 * (l - m) = k - m ∧ k * (k - l - 1) % m = 0 then
    (if k + 1 < 1 + k + k * (k - l - 1) / m ∧ 1 + k + k * (k - l - 1) / m ≤ most ∧ dueB (1 + k + k * (k - l - 1) / m) k l m = true then (match timesM (1 + k + k * (k - l - 1) / m) k l m with
      | some (f, _) => if f < 8 then [[1 + k + k * (k - l - 1) / m, k, l, m]] else []
      | none => []) else []) else []
def accL (most : Int) : List (List Int) := (intsF 1 (most - 1).toNat).flatMap fun k => (intsF 0 k.toNat).flatMap fun l => (intsF 1 k.toNat).flatMap fun m => selL most k l m
def toldR : List (List Int) := [[4, 2, 0, 2], [6, 4, 2, 4], [8, 6, 4, 6], [9, 4, 1, 2], [10, 3, 0, 1], [10, 6, 3, 4], [10, 8, 6, 8], [12, 10, 8, 10], [14, 12, 10, 12], [15, 8, 4, 4], [16, 6, 2, 2], [16, 10, 6, 6], [21, 10, 5, 4], [27, 16, 10, 8], [28, 12, 6, 4]]
def toldF (most : Int) : List (List Int) := toldR.filter fun r => decide (r.headD 0 ≤ most)
theorem chkF : ((intsF 4 37).all fun most => (accF most).isPerm (toldF most)) = true := by decide +kernel
theorem chkL : ((intsF 4 37).all fun most => (accL most).isPerm (toldF most)) = true := by decide +kernel
end K27
end

section
set_option maxRecDepth 100000
set_option linter.all false
set_option maxHeartbeats 4000000
namespace K27
open Y PySem L2
/-! ### sorted rows -/
theorem rows_uniq {a b : List (List Int)} (hp : a.Perm b) (ha : a.Pairwise (· ≤ ·)) (hb : b.Pairwise (· ≤ ·)) : a = b := by
  induction a generalizing b with
  | nil => exact (List.Perm.nil_eq hp)
  | cons x xs ih =>
    cases b with
    | nil => exact absurd hp.symm (by simp)
    | cons y ys =>
      have hx : x ≤ y := by
        have := hp.symm.subset (List.mem_cons_self (a := y) (l := ys))
        rcases List.mem_cons.mp this with e | e
        · rw [e]; exact List.le_refl _
        · exact (List.pairwise_cons.mp ha).1 y e
      have hy : y ≤ x := by
        have := hp.subset (List.mem_cons_self (a := x) (l := xs))
        rcases List.mem_cons.mp this with e | e
        · rw [e]; exact List.le_refl _
        · exact (List.pairwise_cons.mp hb).1 x e
      have e : x = y := List.le_antisymm hx hy
      subst e
      rw [ih ((List.perm_cons x).mp hp) (List.pairwise_cons.mp ha).2 (List.pairwise_cons.mp hb).2]
theorem rowsL_of {a b : List (List Int)} (hp : a.isPerm b = true) (hb : b.Pairwise (· ≤ ·)) : rowsL a = b := by
  unfold rowsL
  refine rows_uniq ((List.mergeSort_perm a _).trans (List.isPerm_iff.mp hp)) ?_ hb
  have := List.pairwise_mergeSort (le := fun a b : List Int => decide (a ≤ b)) (fun a b c h1 h2 => by simp only [decide_eq_true_eq] at *; exact List.le_trans h1 h2) (fun a b => by simp only [Bool.or_eq_true, decide_eq_true_eq]; exact List.le_total a b) a
  exact this.imp fun h => by simpa using h
theorem told_srt : toldR.Pairwise (· ≤ ·) := by decide +kernel
theorem toldF_srt (most : Int) : (toldF most).Pairwise (· ≤ ·) := told_srt.filter _
theorem few_told {most : Int} (m0 : 4 ≤ most) (m1 : most < 41) : rowsL (accF most) = toldF most := by
  have := List.all_eq_true.mp chkF most (mem_ints.mpr ⟨m0, by omega⟩)
  exact rowsL_of this (toldF_srt most)
theorem law_told {most : Int} (m0 : 4 ≤ most) (m1 : most < 41) : rowsL (accL most) = toldF most := by
  have := List.all_eq_true.mp chkL most (mem_ints.mpr ⟨m0, by omega⟩)
  exact rowsL_of this (toldF_srt most)
theorem rowsOf_rowD : ∀ rs : List (List Int), (∀ r ∈ rs, r ≠ []) → rowsOf (rs.map rowD) = some rs
  | [], _ => rfl
  | r :: rs, hr => by
    have h1 : intsOf (r.map D.int) = some r := by
      have : ∀ l : List Int, intsOf (l.map D.int) = some l := fun l => by
        induction l with
        | nil => rfl
        | cons x xs ih => simp [intsOf, ih]
      exact this r
    have h2 := rowsOf_rowD rs fun x hx => hr x (List.mem_cons_of_mem _ hx)
    have h3 : r.isEmpty = false := by
      have := hr r List.mem_cons_self
      cases r with
      | nil => exact absurd rfl this
      | cons _ _ => rfl
    simp [rowsOf, rowD, h1, h2, h3]
theorem sortD_rows (rs : List (List Int)) (hr : ∀ r ∈ rs, r ≠ []) : sortD (rs.map rowD) = some ((rowsL rs).map rowD) := by
  cases rs with
  | nil => simp [sortD, intsOf, intsL, rowsL]
  | cons r rs =>
    have h1 : intsOf ((r :: rs).map rowD) = none := by simp [rowD, intsOf]
    unfold sortD
    rw [h1, rowsOf_rowD _ hr]
section
variable {o : Ob} {most : Int}
theorem selF_ne {k r : Int} : ∀ x ∈ selF most k r, x ≠ [] := by
  intro x hx
  unfold selF at hx
  split at hx
  · simp at hx
  · split at hx
    · split at hx
      · split at hx
        · simp at hx; simp [hx]
        · simp at hx
      · simp at hx
    · simp at hx
theorem few_in {k r : Int} (k0 : 0 ≤ k) (k1 : k < 41) (r0 : 0 ≤ r) (r1 : r < 21) (acc : List (List Int)) (ha : acc.length < 10000) (y4 : Option D) :
    ∃ y4', b_few_at_two_l2 [some (.int most), some (.loc 1), some (.int k), some (.int r), y4] [o, .lst (acc.map rowD)] = .nx [some (.int most), some (.loc 1), some (.int k), some (.int r), y4'] [o, .lst ((acc ++ selF most k r).map rowD)] := by
  refine ⟨some (quadD (atM k r)), ?_⟩
  have ea := at_in (h := [o, .lst (acc.map rowD)]) k0 k1 r0 r1
  have hl : acc.length < line := Nat.lt_of_lt_of_le ha (by decide)
  unfold selF
  cases e : atM k r with
  | none =>
    rw [e] at ea
    simp only [quadD] at ea
    simp [b_few_at_two_l2, b_few_at_two_l2_1, ea, quadD, fnP, fnK, startD, sSeq, sAsg, sPar, sRet, sRetN, sIf, sExpr, sPass, eV, Rs.out, Rs.bind, Rs.bindN, outO, gT, gTs, gN, Y.e1, Y.e2, eC, aN, aC, eTup, lLst, eFrz, eMut, oMul, oSub, oAdd, oEq, oNe, oLt, oLe, oGt, oGe, oIs, oIsNot, isN, oDiv, oMod, uNeg, uNot, uRev, eqD, ofO, finP, Y.tB, Y.tT, Y.tAnd, Y.tOr, Y.tNot, Y.tYes, eAnd, eOr, eIf, eCh, truth, eB, lB, eIs, eCall, lCall, instD, bLen, bInt, seqOf, lstOf, ownL, oIx, ixD, dctOf, atI, ixN, bMin, bMax, intsOf, minI, maxI, bAll, bAny, bools, lComp, compL, iA, unset, ll]
  | some p =>
    obtain ⟨n, k', l, m⟩ := p
    rw [e] at ea
    simp only [quadD] at ea
    obtain ⟨s, rfl, rfl, rfl, m1⟩ := atM_gd k0 k1 r0 r1 e
    have it := is_two (h := [o, .lst (acc.map rowD)]) s (by omega) (by omega) m1
    have ti := times_in (h := [o, .lst (acc.map rowD)]) s
    by_cases c1 : n ≤ most
    · by_cases c2 : dueB n k' (k' - r - 2) (k' - 2 * r) = true
      · obtain ⟨f, g, et⟩ := due_times c2
        rw [c2] at it
        rw [et] at ti
        simp only [pairD] at ti
        by_cases c3 : f ≤ 7
        · simp [b_few_at_two_l2, b_few_at_two_l2_1, ea, it, ti, quadD, c1, c2, et, c3, sApp, isLst, appD, hl, rowD, fnP, fnK, startD, sSeq, sAsg, sPar, sRet, sRetN, sIf, sExpr, sPass, eV, Rs.out, Rs.bind, Rs.bindN, outO, gT, gTs, gN, Y.e1, Y.e2, eC, aN, aC, eTup, lLst, eFrz, eMut, oMul, oSub, oAdd, oEq, oNe, oLt, oLe, oGt, oGe, oIs, oIsNot, isN, oDiv, oMod, uNeg, uNot, uRev, eqD, ofO, finP, Y.tB, Y.tT, Y.tAnd, Y.tOr, Y.tNot, Y.tYes, eAnd, eOr, eIf, eCh, truth, eB, lB, eIs, eCall, lCall, instD, bLen, bInt, seqOf, lstOf, ownL, oIx, ixD, dctOf, atI, ixN, bMin, bMax, intsOf, minI, maxI, bAll, bAny, bools, lComp, compL, iA, unset, ll]
        · simp [b_few_at_two_l2, b_few_at_two_l2_1, ea, it, ti, quadD, c1, c2, et, c3, fnP, fnK, startD, sSeq, sAsg, sPar, sRet, sRetN, sIf, sExpr, sPass, eV, Rs.out, Rs.bind, Rs.bindN, outO, gT, gTs, gN, Y.e1, Y.e2, eC, aN, aC, eTup, lLst, eFrz, eMut, oMul, oSub, oAdd, oEq, oNe, oLt, oLe, oGt, oGe, oIs, oIsNot, isN, oDiv, oMod, uNeg, uNot, uRev, eqD, ofO, finP, Y.tB, Y.tT, Y.tAnd, Y.tOr, Y.tNot, Y.tYes, eAnd, eOr, eIf, eCh, truth, eB, lB, eIs, eCall, lCall, instD, bLen, bInt, seqOf, lstOf, ownL, oIx, ixD, dctOf, atI, ixN, bMin, bMax, intsOf, minI, maxI, bAll, bAny, bools, lComp, compL, iA, unset, ll]
      · have c2' : dueB n k' (k' - r - 2) (k' - 2 * r) = false := by simpa using c2
        rw [c2'] at it
        simp [b_few_at_two_l2, b_few_at_two_l2_1, ea, it, quadD, c1, c2', fnP, fnK, startD, sSeq, sAsg, sPar, sRet, sRetN, sIf, sExpr, sPass, eV, Rs.out, Rs.bind, Rs.bindN, outO, gT, gTs, gN, Y.e1, Y.e2, eC, aN, aC, eTup, lLst, eFrz, eMut, oMul, oSub, oAdd, oEq, oNe, oLt, oLe, oGt, oGe, oIs, oIsNot, isN, oDiv, oMod, uNeg, uNot, uRev, eqD, ofO, finP, Y.tB, Y.tT, Y.tAnd, Y.tOr, Y.tNot, Y.tYes, eAnd, eOr, eIf, eCh, truth, eB, lB, eIs, eCall, lCall, instD, bLen, bInt, seqOf, lstOf, ownL, oIx, ixD, dctOf, atI, ixN, bMin, bMax, intsOf, minI, maxI, bAll, bAny, bools, lComp, compL, iA, unset, ll]
    · simp [b_few_at_two_l2, b_few_at_two_l2_1, ea, quadD, c1, fnP, fnK, startD, sSeq, sAsg, sPar, sRet, sRetN, sIf, sExpr, sPass, eV, Rs.out, Rs.bind, Rs.bindN, outO, gT, gTs, gN, Y.e1, Y.e2, eC, aN, aC, eTup, lLst, eFrz, eMut, oMul, oSub, oAdd, oEq, oNe, oLt, oLe, oGt, oGe, oIs, oIsNot, isN, oDiv, oMod, uNeg, uNot, uRev, eqD, ofO, finP, Y.tB, Y.tT, Y.tAnd, Y.tOr, Y.tNot, Y.tYes, eAnd, eOr, eIf, eCh, truth, eB, lB, eIs, eCall, lCall, instD, bLen, bInt, seqOf, lstOf, ownL, oIx, ixD, dctOf, atI, ixN, bMin, bMax, intsOf, minI, maxI, bAll, bAny, bools, lComp, compL, iA, unset, ll]
theorem sel_len {k r : Int} : (selF most k r).length ≤ 1 := by
  unfold selF
  split
  · simp
  · split
    · split
      · split <;> simp
      · simp
    · simp
theorem few_row {k : Int} (k0 : 0 ≤ k) (k1 : k < 41) : ∀ (rs : List Int) (acc : List (List Int)) (y3 y4 : Option D), (∀ r ∈ rs, 0 ≤ r ∧ r < 21) → acc.length + rs.length < 9000 →
    ∃ y3' y4', forL (gN 3) b_few_at_two_l2 (rs.map .int) [some (.int most), some (.loc 1), some (.int k), y3, y4] [o, .lst (acc.map rowD)] = .nx [some (.int most), some (.loc 1), some (.int k), y3', y4'] [o, .lst ((acc ++ rs.flatMap (selF most k)).map rowD)]
  | [], acc, y3, y4, _, _ => ⟨y3, y4, by simp [forL]⟩
  | r :: rs, acc, y3, y4, hr, hl => by
    have r0 := hr r List.mem_cons_self
    simp only [List.length_cons] at hl
    obtain ⟨y5, e1⟩ := few_in (o := o) (most := most) k0 k1 r0.1 r0.2 acc (by omega) y4
    have sl := sel_len (most := most) (k := k) (r := r)
    obtain ⟨y3', y4', e2⟩ := few_row k0 k1 rs (acc ++ selF most k r) (some (.int r)) y5 (fun x hx => hr x (List.mem_cons_of_mem _ hx)) (by rw [List.length_append]; omega)
    refine ⟨y3', y4', ?_⟩
    rw [List.flatMap_cons, ← List.append_assoc, ← e2]
    simp [forL, gN, e1]
theorem flat_len {α β : Type} {f : α → List β} {c : Nat} : ∀ (l : List α), (∀ x ∈ l, (f x).length ≤ c) → (l.flatMap f).length ≤ l.length * c
  | [], _ => by simp
  | x :: l, h => by
    have h1 := h x List.mem_cons_self
    have h2 := flat_len l fun y hy => h y (List.mem_cons_of_mem _ hy)
    simp only [List.flatMap_cons, List.length_append, List.length_cons, Nat.add_mul, Nat.one_mul]
    omega
theorem few_rows : ∀ (ks : List Int) (acc : List (List Int)) (y2 y3 y4 : Option D), (∀ k ∈ ks, 0 ≤ k ∧ k < 40) → acc.length + ks.length * 21 < 5000 →
    ∃ y2' y3' y4', forL (gN 2) b_few_at_two_l1 (ks.map .int) [some (.int most), some (.loc 1), y2, y3, y4] [o, .lst (acc.map rowD)] = .nx [some (.int most), some (.loc 1), y2', y3', y4'] [o, .lst ((acc ++ ks.flatMap fun k => (intsF 0 (k / 2 + 1).toNat).flatMap (selF most k)).map rowD)]
  | [], acc, y2, y3, y4, _, _ => ⟨y2, y3, y4, by simp [forL]⟩
  | k :: ks, acc, y2, y3, y4, hk, hl => by
    have k0 := hk k List.mem_cons_self
    simp only [List.length_cons, Nat.add_mul] at hl
    have len : (intsF 0 (k / 2 + 1).toNat).length ≤ 21 := by simp [intsF]; omega
    obtain ⟨y3', y4', e1⟩ := few_row (o := o) (most := most) k0.1 (by omega) (intsF 0 (k / 2 + 1).toNat) acc y3 y4 (fun r hr => by have := mem_ints.mp hr; omega) (by omega)
    have fl := flat_len (f := selF most k) (c := 1) (intsF 0 (k / 2 + 1).toNat) fun x _ => sel_len
    obtain ⟨y5, y6, y7, e2⟩ := few_rows ks (acc ++ (intsF 0 (k / 2 + 1).toNat).flatMap (selF most k)) (some (.int k)) y3' y4' (fun x hx => hk x (List.mem_cons_of_mem _ hx)) (by rw [List.length_append]; omega)
    refine ⟨y5, y6, y7, ?_⟩
    rw [List.flatMap_cons, ← List.append_assoc, ← e2]
    have sm : small (k / 2 + 1) = true := by simp [small]; omega
    have er : rangeD 0 (k / 2 + 1).toNat = (intsF 0 (k / 2 + 1).toNat).map D.int := range_ints _ _
    have st : b_few_at_two_l1 [some (.int most), some (.loc 1), some (.int k), y3, y4] [o, .lst (acc.map rowD)] = .nx [some (.int most), some (.loc 1), some (.int k), y3', y4'] [o, .lst ((acc ++ (intsF 0 (k / 2 + 1).toNat).flatMap (selF most k)).map rowD)] := by
      rw [← e1, ← er]
      simp [b_few_at_two_l1, sFor, iR1, sm, fnP, fnK, startD, sSeq, sAsg, sPar, sRet, sRetN, sIf, sExpr, sPass, eV, Rs.out, Rs.bind, Rs.bindN, outO, gT, gTs, gN, Y.e1, Y.e2, eC, aN, aC, eTup, lLst, eFrz, eMut, oMul, oSub, oAdd, oEq, oNe, oLt, oLe, oGt, oGe, oIs, oIsNot, isN, oDiv, oMod, uNeg, uNot, uRev, eqD, ofO, finP, Y.tB, Y.tT, Y.tAnd, Y.tOr, Y.tNot, Y.tYes, eAnd, eOr, eIf, eCh, truth, eB, lB, eIs, eCall, lCall, instD, bLen, bInt, seqOf, lstOf, ownL, oIx, ixD, dctOf, atI, ixN, bMin, bMax, intsOf, minI, maxI, bAll, bAny, bools, lComp, compL, iA, unset, ll]
    simp [forL, gN, st]
theorem accF_ne : ∀ x ∈ accF most, x ≠ [] := by
  intro x hx
  unfold accF at hx
  obtain ⟨k, _, h1⟩ := List.mem_flatMap.mp hx
  obtain ⟨r, _, h2⟩ := List.mem_flatMap.mp h1
  exact selF_ne x h2
theorem low_rows (n : Nat) : ∀ rs : List (List Int), D.lowL n (rs.map rowD) = true
  | [] => rfl
  | r :: rs => by
    have : ∀ l : List Int, D.lowL n (l.map D.int) = true := fun l => by
      induction l with
      | nil => rfl
      | cons x xs ih => simp [D.lowL, D.low, ih]
    simp [D.lowL, rowD, D.low, this, low_rows n rs]
theorem few (m0 : 0 ≤ most) (m1 : most < 41) : d_few_at_two [.int most] [o] = .ok (.tup ((rowsL (accF most)).map rowD)) [o] := by
  obtain ⟨y2, y3, y4, e⟩ := few_rows (o := o) (most := most) (intsF 1 (most - 1).toNat) [] none none none (fun k hk => by have := mem_ints.mp hk; omega) (by simp [intsF]; omega)
  have sm : small most = true := by simp [small]; omega
  have er : rangeD 1 (most - 1).toNat = (intsF 1 (most - 1).toNat).map D.int := range_ints _ _
  have s1 : small 1 = true := by decide
  have e1 : b_few_at_two [some (.int most), none, none, none, none] [o] = b_few_at_two_3 [some (.int most), some (.loc 1), y2, y3, y4] [o, .lst ((accF most).map rowD)] := by
    have e' := e
    rw [← er] at e'
    simp only [List.map_nil, List.nil_append] at e'
    simp [b_few_at_two, b_few_at_two_1, b_few_at_two_2, need_c m0, sFor, iR2, sm, s1, fnP, fnK, startD, sSeq, sAsg, sPar, sRet, sRetN, sIf, sExpr, sPass, eV, Rs.out, Rs.bind, Rs.bindN, outO, gT, gTs, gN, Y.e1, Y.e2, eC, aN, aC, eTup, lLst, eFrz, eMut, oMul, oSub, oAdd, oEq, oNe, oLt, oLe, oGt, oGe, oIs, oIsNot, isN, oDiv, oMod, uNeg, uNot, uRev, eqD, ofO, finP, Y.tB, Y.tT, Y.tAnd, Y.tOr, Y.tNot, Y.tYes, eAnd, eOr, eIf, eCh, truth, eB, lB, eIs, eCall, lCall, instD, bLen, bInt, seqOf, lstOf, ownL, oIx, ixD, dctOf, atI, ixN, bMin, bMax, intsOf, minI, maxI, bAll, bAny, bools, lComp, compL, iA, unset, ll]
    rw [show (fun k => List.flatMap (selF most k) (intsF 0 (k / 2 + 1).toNat)) = fun k => (intsF 0 (k / 2 + 1).toNat).flatMap (selF most k) from rfl] at e'
    rw [show most.toNat - 1 = (most - 1).toNat by omega, e']
    rfl
  unfold d_few_at_two fnP
  rw [show startD 5 [D.int most] = [some (.int most), none, none, none, none] from rfl, e1]
  have so := sortD_rows (accF most) accF_ne
  have lo := low_rows 1 (rowsL (accF most))
  simp [b_few_at_two_3, mSorted, so, bTuple, lo, D.low, sealed, fnP, fnK, startD, sSeq, sAsg, sPar, sRet, sRetN, sIf, sExpr, sPass, eV, Rs.out, Rs.bind, Rs.bindN, outO, gT, gTs, gN, Y.e1, Y.e2, eC, aN, aC, eTup, lLst, eFrz, eMut, oMul, oSub, oAdd, oEq, oNe, oLt, oLe, oGt, oGe, oIs, oIsNot, isN, oDiv, oMod, uNeg, uNot, uRev, eqD, ofO, finP, Y.tB, Y.tT, Y.tAnd, Y.tOr, Y.tNot, Y.tYes, eAnd, eOr, eIf, eCh, truth, eB, lB, eIs, eCall, lCall, instD, bLen, bInt, seqOf, lstOf, ownL, oIx, ixD, dctOf, atI, ixN, bMin, bMax, intsOf, minI, maxI, bAll, bAny, bools, lComp, compL, iA, unset, ll]
end
end K27
end

section
set_option maxRecDepth 100000
set_option linter.all false
set_option maxHeartbeats 4000000
namespace K27
open Y PySem L2
theorem dr : Draws d_u_law_draw := fun hp _ m0 m1 => draw 84421 2147482873 9341 107 17 256 (by decide) hp m0 m1
section
variable {o : Ob} {N : Nat} {n k l m r most : Int} {h : Hm} {s0 y2 y3 y4 y5 y6 y7 y8 y9 y10 y11 y12 y13 y14 : Option D}
theorem dr1 (hp : PenAt [o] 0 (N + 1)) {many : Int} (m0 : 0 < many) (m1 : many < 1073741824) : ∃ (r : Int) (o' : Ob), d_u_law_draw [.loc 0, .int many] [o] = .ok (.int r) [o'] ∧ 0 ≤ r ∧ r < many ∧ PenAt [o'] 0 N := draws1 dr hp m0 m1
theorem ne_str {x : Str} : oNe h (.str x) (.str x) = some (.bl false) := by simp [oNe, eqD]
theorem ne_word {x : Str} {i : Int} (hs : PyData.strOk x = true) : oNe h (wordD x i) (wordD x i) = some (.bl false) := by
  simp [oNe, eqD, py, pyL, SeqAt.shaped, PyData.canLay0, PyData.canLayAll0, PyData.depth, PyData.depthAll, PyData.eqv, PyData.eqvAll, hs]
theorem repr_quadD {p : Option (Int × Int × Int × Int)} (hp : ∀ a b c d, p = some (a, b, c, d) → Gd a b c d) : ∃ x : Str, bRepr h [quadD p] = some (.str x) := by
  cases p with
  | none => exact ⟨_, by simp [bRepr, quadD, py, SeqAt.shaped, PyData.canLay0, PyData.depth, wid, ll]; rfl⟩
  | some p =>
    obtain ⟨a, b, c, d⟩ := p
    obtain ⟨k0, kn, l0, lk, m0, me, n1⟩ := hp a b c d rfl
    exact repr_quad (by omega) (by omega)
theorem repr_word {x : Str} {i : Int} (hs : PyData.strOk x = true) (hx : (reprText x).length ≤ 1000) (h1 : -1000000 < i) (h2 : i < 1000000) : ∃ y : Str, bRepr h [wordD x i] = some (.str y) := by
  have hw : (reprText x).length + 2 + (61 + 2) + 3 ≤ line := Nat.le_trans (show _ ≤ 1068 by omega) (by decide)
  exact ⟨_, by simp [bRepr, py, pyL, SeqAt.shaped, PyData.canLay0, PyData.canLayAll0, PyData.depth, PyData.depthAll, wid, widL, b60 h1 h2, hw, hs]; rfl⟩
theorem repr_kind (s : Gd n k l m) {f : Int} (f0 : 0 ≤ f) (f1 : f < 10000) : ∃ y : Str, bRepr h [kindM n k l m f] = some (.str y) := by
  obtain ⟨k0, kn, l0, lk, m0, me, n1⟩ := s
  unfold kindM
  split
  · exact repr_word (by decide +kernel) (by decide +kernel) (by omega) (by omega)
  · split
    · exact repr_word (by decide +kernel) (by decide +kernel) (by omega) (by omega)
    · split
      · exact repr_word (by decide +kernel) (by decide +kernel) (by omega) (by omega)
      · exact repr_word (by decide +kernel) (by decide +kernel) (by omega) (by omega)
theorem repr_non : ∃ y : Str, bRepr h [.non] = some (.str y) := ⟨_, by simp [bRepr, py, SeqAt.shaped, PyData.canLay0, PyData.depth, wid, ll]; rfl⟩
theorem even_pairs (s : Gd n k l m) (e : 4 + 2 * (l - m) = k - m) (hn : k = m → n = k + 2) (d : dueB n k l m = true) : k = m → n = k + 2 ∧ n % 2 = 0 := by
  intro hm
  refine ⟨hn hm, ?_⟩
  obtain ⟨f, g, et⟩ := due_times d
  have e2 : l - m = -2 := by omega
  have rr := rays2 (k := k) (l := l) (m := m) (by omega) e
  unfold timesM at et
  rw [rr] at et
  simp only [timesOf] at et
  rw [e2] at et
  split at et
  · cases et
  · split at et
    · rename_i c
      have c1 : (-k - -2 * (n - 1)) % 2 = 0 := by have := c.1; rwa [show (-2 + 2 - -2 : Int) = 2 from rfl] at this
      have := hn hm
      omega
    · cases et
theorem lapB (k0 : 0 ≤ k) (k1 : k < 30) (r0 : 0 ≤ r) (r1 : r < 12) : ∃ z5 z6, b_law_l1_1 [s0, some (.loc 0), y2, some (.int k), some (.int r), y5, y6, y7, y8, y9, y10, y11, y12, y13, y14] h = .nx [s0, some (.loc 0), y2, some (.int k), some (.int r), z5, z6, y7, y8, y9, y10, y11, y12, y13, y14] h := by
  have ea := num_at (h := h) k0 (by omega) r0 (by omega)
  have eb := law_at (h := h) k0 (by omega) r0 (by omega)
  obtain ⟨x, ex⟩ := repr_quadD (h := h) (p := atM k r) fun a b c d e => (atM_gd k0 (by omega) r0 (by omega) e).1
  cases e : atM k r with
  | none =>
    rw [e] at ea eb ex
    simp only [quadD] at ea eb ex
    refine ⟨some .non, y6, ?_⟩
    simp [b_law_l1_1, b_law_l1_2, b_law_l1_3, ea, eb, ex, ne_str, fnP, fnK, startD, sSeq, sAsg, sPar, sRet, sRetN, sIf, sExpr, sPass, eV, Rs.out, Rs.bind, Rs.bindN, outO, gT, gTs, gN, Y.e1, Y.e2, eC, aN, aC, eTup, lLst, eFrz, eMut, oMul, oSub, oAdd, oEq, oLt, oLe, oGt, oGe, oIs, oIsNot, isN, oDiv, oMod, uNeg, uNot, uRev, ofO, finP, Y.tB, Y.tT, Y.tAnd, Y.tOr, Y.tNot, Y.tYes, eAnd, eOr, eIf, eCh, truth, eB, lB, eIs, eCall, lCall, instD, bLen, bInt, seqOf, lstOf, ownL, oIx, ixD, dctOf, atI, ixN, bMin, bMax, intsOf, minI, maxI, bAll, bAny, bools, lComp, compL, iA, unset, ll]
  | some p =>
    obtain ⟨n, k', l, m⟩ := p
    obtain ⟨s, rfl, el, em, m1⟩ := atM_gd k0 (by omega) r0 (by omega) e
    rw [e] at ea eb ex
    simp only [quadD] at ea eb ex
    have q0 : 0 ≤ l - m + 4 := by omega
    have q1 : 4 + 2 * (l - m) = k' - m := by omega
    have ro := rays_ok (h := h) s
    rw [rays2 q0 q1] at ro
    simp only [pairD] at ro
    rw [show l - m + 2 = r by omega] at ro
    have cn := can (h := h) s
    by_cases d : dueB n k' l m = true
    · obtain ⟨f, g, et⟩ := due_times d
      have ky := kind_yes (h := h) s q0 q1 m1 d et
      have hn : k' = m → n = k' + 2 := fun hm => by
        unfold atM at e
        have r00 : r = 0 := by omega
        subst r00
        split at e
        · cases e
        · split at e
          · cases e
            have : k' * (0 + 1) / (k' - 2 * 0) = 1 := by
              rw [show k' * (0 + 1) = k' by omega, show k' - 2 * 0 = k' by omega]
              exact Int.ediv_self (by omega)
            omega
          · cases e
      have lk := law_kind (h := h) s (by omega) (due_bal d) (even_pairs s q1 hn d) et
      have tb := times_some s et
      obtain ⟨y, ey⟩ := repr_kind (h := h) s (f := f) tb.1 (by omega)
      refine ⟨some (quad n k' l m), some (.bl true), ?_⟩
      rw [d] at cn
      simp [b_law_l1_1, b_law_l1_2, b_law_l1_3, ea, eb, ex, ne_str, ne_pair, ro, cn, ky, lk, ey, fnP, fnK, startD, sSeq, sAsg, sPar, sRet, sRetN, sIf, sExpr, sPass, eV, Rs.out, Rs.bind, Rs.bindN, outO, gT, gTs, gN, Y.e1, Y.e2, eC, aN, aC, eTup, lLst, eFrz, eMut, oMul, oSub, oAdd, oEq, oLt, oLe, oGt, oGe, oIs, oIsNot, isN, oDiv, oMod, uNeg, uNot, uRev, ofO, finP, Y.tB, Y.tT, Y.tAnd, Y.tOr, Y.tNot, Y.tYes, eAnd, eOr, eIf, eCh, truth, eB, lB, eIs, eCall, lCall, instD, bLen, bInt, seqOf, lstOf, ownL, oIx, ixD, dctOf, atI, ixN, bMin, bMax, intsOf, minI, maxI, bAll, bAny, bools, lComp, compL, iA, unset, ll]
    · have d' : dueB n k' l m = false := by simpa using d
      have kn := kind_no (h := h) s (by rw [is_two s q0 q1 m1, d'])
      obtain ⟨y, ey⟩ := repr_non (h := h)
      refine ⟨some (quad n k' l m), some (.bl false), ?_⟩
      rw [d'] at cn
      simp [b_law_l1_1, b_law_l1_2, b_law_l1_3, ea, eb, ex, ne_str, ne_pair, ro, cn, kn, ey, fnP, fnK, startD, sSeq, sAsg, sPar, sRet, sRetN, sIf, sExpr, sPass, eV, Rs.out, Rs.bind, Rs.bindN, outO, gT, gTs, gN, Y.e1, Y.e2, eC, aN, aC, eTup, lLst, eFrz, eMut, oMul, oSub, oAdd, oEq, oLt, oLe, oGt, oGe, oIs, oIsNot, isN, oDiv, oMod, uNeg, uNot, uRev, ofO, finP, Y.tB, Y.tT, Y.tAnd, Y.tOr, Y.tNot, Y.tYes, eAnd, eOr, eIf, eCh, truth, eB, lB, eIs, eCall, lCall, instD, bLen, bInt, seqOf, lstOf, ownL, oIx, ixD, dctOf, atI, ixN, bMin, bMax, intsOf, minI, maxI, bAll, bAny, bools, lComp, compL, iA, unset, ll]
theorem lap (hp : PenAt [o] 0 (N + 2)) : ∃ z3 z4 z5 z6 o', b_law_l1 [s0, some (.loc 0), y2, y3, y4, y5, y6, y7, y8, y9, y10, y11, y12, y13, y14] [o] = .nx [s0, some (.loc 0), y2, z3, z4, z5, z6, y7, y8, y9, y10, y11, y12, y13, y14] [o'] ∧ PenAt [o'] 0 N := by
  obtain ⟨k, o1, e1, k0, k1, p1⟩ := dr1 (N := N + 1) hp (many := 30) (by decide) (by decide)
  obtain ⟨r, o2, e2, r0, r1, p2⟩ := dr1 (N := N) p1 (many := 12) (by decide) (by decide)
  obtain ⟨z5, z6, e3⟩ := lapB (s0 := s0) (y2 := y2) (y5 := y5) (y6 := y6) (y7 := y7) (y8 := y8) (y9 := y9) (y10 := y10) (y11 := y11) (y12 := y12) (y13 := y13) (y14 := y14) (h := [o2]) k0 k1 r0 r1
  refine ⟨some (.int k), some (.int r), z5, z6, o2, ?_, p2⟩
  rw [← e3]
  simp [b_law_l1, e1, e2, fnP, fnK, startD, sSeq, sAsg, sPar, sRet, sRetN, sIf, sExpr, sPass, eV, Rs.out, Rs.bind, Rs.bindN, outO, gT, gTs, gN, Y.e1, Y.e2, eC, aN, aC, eTup, lLst, eFrz, eMut, oMul, oSub, oAdd, oEq, oNe, oLt, oLe, oGt, oGe, oIs, oIsNot, isN, oDiv, oMod, uNeg, uNot, uRev, eqD, ofO, finP, Y.tB, Y.tT, Y.tAnd, Y.tOr, Y.tNot, Y.tYes, eAnd, eOr, eIf, eCh, truth, eB, lB, eIs, eCall, lCall, instD, bLen, bInt, seqOf, lstOf, ownL, oIx, ixD, dctOf, atI, ixN, bMin, bMax, intsOf, minI, maxI, bAll, bAny, bools, lComp, compL, iA, unset, ll]
/-! ### the named ones -/
def gdB (n k l m : Int) : Bool := decide (0 < k ∧ k < n - 1 ∧ 0 ≤ l ∧ l < k ∧ 0 ≤ m ∧ m ≤ k ∧ n < 1000)
theorem gd_of (e : gdB n k l m = true) : Gd n k l m := by
  obtain ⟨a, b, c, d, e, f, g⟩ := of_decide_eq_true e
  exact ⟨a, b, c, d, e, f, g⟩
def nameB (n k l m : Int) : Bool := gdB n k l m && dueB n k l m && decide (4 + 2 * (l - m) = k - m) && decide (0 ≤ l - m + 4) && decide (1 ≤ m)
theorem name_kind (e : nameB n k l m = true) : ∃ f, d_kind_at_two [quad n k l m] h = .ok (kindM n k l m f) h := by
  simp only [nameB, Bool.and_eq_true, decide_eq_true_eq] at e
  obtain ⟨⟨⟨⟨g, d⟩, q1⟩, q0⟩, m1⟩ := e
  obtain ⟨f, g', et⟩ := due_times d
  exact ⟨f, kind_yes (gd_of g) q0 q1 m1 d et⟩
theorem chkN : ((intsF 3 20).all fun a => (decide (a ≤ 4) || nameB (a * (a - 1) / 2) (2 * (a - 2)) (a - 2) 4) && nameB (a * a) (2 * (a - 1)) (a - 2) 2 && nameB (2 * a) (2 * a - 2) (2 * a - 4) (2 * a - 2)) = true := by decide +kernel
theorem named {a : Int} (a0 : 3 ≤ a) (a1 : a < 23) : (4 < a → d_kind_at_two [quad (a * (a - 1) / 2) (2 * (a - 2)) (a - 2) 4] h = .ok (wordD "full" a) h) ∧ d_kind_at_two [quad (a * a) (2 * (a - 1)) (a - 2) 2] h = .ok (wordD "squares" a) h ∧ d_kind_at_two [quad (2 * a) (2 * a - 2) (2 * a - 4) (2 * a - 2)] h = .ok (wordD "pairs" a) h := by
  have c := List.all_eq_true.mp chkN a (mem_ints.mpr ⟨a0, by omega⟩)
  simp only [Bool.and_eq_true, Bool.or_eq_true, decide_eq_true_eq] at c
  obtain ⟨⟨c1, c2⟩, c3⟩ := c
  refine ⟨fun a4 => ?_, ?_, ?_⟩
  · obtain ⟨f, e⟩ := name_kind (h := h) (c1.resolve_left (by omega))
    rw [e]
    unfold kindM Pf Ps
    rw [if_neg (by omega), if_pos (by refine ⟨by omega, ?_, by omega, by omega, rfl⟩; rw [show a - 2 + 2 = a by omega]), show a - 2 + 2 = a by omega]
  · obtain ⟨f, e⟩ := name_kind (h := h) c2
    rw [e]
    unfold kindM Pf Ps
    rw [if_neg (by omega), if_neg (by omega), if_pos (by refine ⟨by omega, ?_, by omega, by omega, rfl⟩; rw [show a - 2 + 2 = a by omega]), show a - 2 + 2 = a by omega]
  · obtain ⟨f, e⟩ := name_kind (h := h) c3
    rw [e]
    unfold kindM
    rw [if_pos (by omega), show 2 * a / 2 = a by omega]
theorem none4 : d_kind_at_two [quad 5 2 0 1] h = .ok .non h ∧ d_kind_at_two [quad 6 2 1 0] h = .ok .non h ∧ d_kind_at_two [quad 16 5 0 2] h = .ok .non h ∧ d_kind_at_two [quad 28 18 12 10] h = .ok .non h := by
  refine ⟨kind_no (gd_of (by decide)) (is_two_no (x := none) (gd_of (by decide)) (by decide +kernel) (.inl rfl)), kind_no (gd_of (by decide)) (is_two_no (x := some (2, -1)) (gd_of (by decide)) (by decide +kernel) (.inr (.inl ⟨_, _, rfl, by decide⟩))),
    kind_no (gd_of (by decide)) (is_two_no (x := some (1, -3)) (gd_of (by decide)) (by decide +kernel) (.inr (.inl ⟨_, _, rfl, by decide⟩))), kind_no (gd_of (by decide)) (is_two_no (x := some (4, -2)) (gd_of (by decide)) (by decide +kernel) (.inr (.inr ⟨_, _, rfl, fun _ => by decide +kernel⟩)))⟩
end
end K27
end

section
set_option maxRecDepth 100000
set_option linter.all false
set_option maxHeartbeats 4000000
namespace K27
open Y PySem L2
section
variable {o : Ob} {N : Nat} {n k l m r most : Int} {h : Hm} {s0 y2 y3 y4 y5 y6 y7 y8 y9 y10 y11 y12 y13 y14 : Option D}
theorem selL_len : (selL most k l m).length ≤ 1 := by
  unfold selL
  split
  · split
    · split
      · split <;> simp
      · simp
    · simp
  · simp
theorem selL_ne : ∀ x ∈ selL most k l m, x ≠ [] := by
  intro x hx
  unfold selL at hx
  split at hx
  · split at hx
    · split at hx
      · split at hx
        · simp at hx; simp [hx]
        · simp at hx
      · simp at hx
    · simp at hx
  · simp at hx
theorem l4_ok (k0 : 0 ≤ k) (k1 : k < 40) (l0 : 0 ≤ l) (lk : l < k) (m0 : 1 ≤ m) (mk : m ≤ k) (mo : most < 41) (acc : List (List Int)) (ha : acc.length < 100000) :
    ∃ z12, b_law_l4 [s0, some (.loc 0), y2, some (.int k), y4, y5, y6, y7, some (.int most), some (.fl (acc.map rowD)), some (.int l), some (.int m), y12, y13, y14] h = .nx [s0, some (.loc 0), y2, some (.int k), y4, y5, y6, y7, some (.int most), some (.fl ((acc ++ selL most k l m).map rowD)), some (.int l), some (.int m), z12, y13, y14] h := by
  have a1 : mulOk 2 (l - m) = true := mulOk_l (by omega) (by omega)
  have a2 : mulOk k (k - l - 1) = true := mulOk_l (by omega) (by omega)
  have m00 : 0 < m := by omega
  have m1 : m < 1073741824 := by omega
  have hl1 : acc.length + 1 ≤ line := Nat.le_trans (show _ ≤ 100000 by omega) (by decide)
  have hl0 : acc.length ≤ line := by omega
  unfold selL
  by_cases c1 : 4 + 2 * (l - m) = k - m
  · by_cases c2 : k * (k - l - 1) % m = 0
    · rw [if_pos ⟨c1, c2⟩]
      generalize hn : 1 + k + k * (k - l - 1) / m = n
      refine ⟨some (quad n k l m), ?_⟩
      by_cases c3 : k + 1 < n
      · by_cases c4 : n ≤ most
        · have s : Gd n k l m := ⟨by omega, by omega, l0, lk, by omega, mk, by omega⟩
          have cn := can (h := h) s
          have ro := rays_ok (h := h) s
          rw [rays2 (by omega) c1] at ro
          simp only [pairD] at ro
          by_cases d : dueB n k l m = true
          · obtain ⟨f, g, et⟩ := due_times d
            have tm := times_ok (h := h) s (due_bal d)
            rw [et] at tm
            simp only [pairD] at tm
            rw [d] at cn
            by_cases c5 : f < 8
            · simp [b_law_l4, a1, a2, c1, c2, c3, c4, c5, m00, m1, hn, cn, ro, tm, d, et, hl1, rowD, fnP, fnK, startD, sSeq, sAsg, sPar, sRet, sRetN, sIf, sExpr, sPass, eV, Rs.out, Rs.bind, Rs.bindN, outO, gT, gTs, gN, Y.e1, Y.e2, eC, aN, aC, eTup, lLst, eFrz, eMut, oMul, oSub, oAdd, oEq, oNe, oLt, oLe, oGt, oGe, oIs, oIsNot, isN, oDiv, oMod, uNeg, uNot, uRev, eqD, ofO, finP, Y.tB, Y.tT, Y.tAnd, Y.tOr, Y.tNot, Y.tYes, eAnd, eOr, eIf, eCh, truth, eB, lB, eIs, eCall, lCall, instD, bLen, bInt, seqOf, lstOf, ownL, oIx, ixD, dctOf, atI, ixN, bMin, bMax, intsOf, minI, maxI, bAll, bAny, bools, lComp, compL, iA, unset, ll]
            · simp [b_law_l4, a1, a2, c1, c2, c3, c4, c5, m00, m1, hn, cn, ro, tm, d, et, hl0, rowD, fnP, fnK, startD, sSeq, sAsg, sPar, sRet, sRetN, sIf, sExpr, sPass, eV, Rs.out, Rs.bind, Rs.bindN, outO, gT, gTs, gN, Y.e1, Y.e2, eC, aN, aC, eTup, lLst, eFrz, eMut, oMul, oSub, oAdd, oEq, oNe, oLt, oLe, oGt, oGe, oIs, oIsNot, isN, oDiv, oMod, uNeg, uNot, uRev, eqD, ofO, finP, Y.tB, Y.tT, Y.tAnd, Y.tOr, Y.tNot, Y.tYes, eAnd, eOr, eIf, eCh, truth, eB, lB, eIs, eCall, lCall, instD, bLen, bInt, seqOf, lstOf, ownL, oIx, ixD, dctOf, atI, ixN, bMin, bMax, intsOf, minI, maxI, bAll, bAny, bools, lComp, compL, iA, unset, ll]
          · have d' : dueB n k l m = false := by simpa using d
            rw [d'] at cn
            simp [b_law_l4, a1, a2, c1, c2, c3, c4, m00, m1, hn, cn, d', fnP, fnK, startD, sSeq, sAsg, sPar, sRet, sRetN, sIf, sExpr, sPass, eV, Rs.out, Rs.bind, Rs.bindN, outO, gT, gTs, gN, Y.e1, Y.e2, eC, aN, aC, eTup, lLst, eFrz, eMut, oMul, oSub, oAdd, oEq, oNe, oLt, oLe, oGt, oGe, oIs, oIsNot, isN, oDiv, oMod, uNeg, uNot, uRev, eqD, ofO, finP, Y.tB, Y.tT, Y.tAnd, Y.tOr, Y.tNot, Y.tYes, eAnd, eOr, eIf, eCh, truth, eB, lB, eIs, eCall, lCall, instD, bLen, bInt, seqOf, lstOf, ownL, oIx, ixD, dctOf, atI, ixN, bMin, bMax, intsOf, minI, maxI, bAll, bAny, bools, lComp, compL, iA, unset, ll]
        · simp [b_law_l4, a1, a2, c1, c2, c3, c4, m00, m1, hn, fnP, fnK, startD, sSeq, sAsg, sPar, sRet, sRetN, sIf, sExpr, sPass, eV, Rs.out, Rs.bind, Rs.bindN, outO, gT, gTs, gN, Y.e1, Y.e2, eC, aN, aC, eTup, lLst, eFrz, eMut, oMul, oSub, oAdd, oEq, oNe, oLt, oLe, oGt, oGe, oIs, oIsNot, isN, oDiv, oMod, uNeg, uNot, uRev, eqD, ofO, finP, Y.tB, Y.tT, Y.tAnd, Y.tOr, Y.tNot, Y.tYes, eAnd, eOr, eIf, eCh, truth, eB, lB, eIs, eCall, lCall, instD, bLen, bInt, seqOf, lstOf, ownL, oIx, ixD, dctOf, atI, ixN, bMin, bMax, intsOf, minI, maxI, bAll, bAny, bools, lComp, compL, iA, unset, ll]
      · simp [b_law_l4, a1, a2, c1, c2, c3, m00, m1, hn, fnP, fnK, startD, sSeq, sAsg, sPar, sRet, sRetN, sIf, sExpr, sPass, eV, Rs.out, Rs.bind, Rs.bindN, outO, gT, gTs, gN, Y.e1, Y.e2, eC, aN, aC, eTup, lLst, eFrz, eMut, oMul, oSub, oAdd, oEq, oNe, oLt, oLe, oGt, oGe, oIs, oIsNot, isN, oDiv, oMod, uNeg, uNot, uRev, eqD, ofO, finP, Y.tB, Y.tT, Y.tAnd, Y.tOr, Y.tNot, Y.tYes, eAnd, eOr, eIf, eCh, truth, eB, lB, eIs, eCall, lCall, instD, bLen, bInt, seqOf, lstOf, ownL, oIx, ixD, dctOf, atI, ixN, bMin, bMax, intsOf, minI, maxI, bAll, bAny, bools, lComp, compL, iA, unset, ll]
    · rw [if_neg fun z => c2 z.2]
      refine ⟨y12, ?_⟩
      simp [b_law_l4, a1, a2, c1, c2, m00, fnP, fnK, startD, sSeq, sAsg, sPar, sRet, sRetN, sIf, sExpr, sPass, eV, Rs.out, Rs.bind, Rs.bindN, outO, gT, gTs, gN, Y.e1, Y.e2, eC, aN, aC, eTup, lLst, eFrz, eMut, oMul, oSub, oAdd, oEq, oNe, oLt, oLe, oGt, oGe, oIs, oIsNot, isN, oDiv, oMod, uNeg, uNot, uRev, eqD, ofO, finP, Y.tB, Y.tT, Y.tAnd, Y.tOr, Y.tNot, Y.tYes, eAnd, eOr, eIf, eCh, truth, eB, lB, eIs, eCall, lCall, instD, bLen, bInt, seqOf, lstOf, ownL, oIx, ixD, dctOf, atI, ixN, bMin, bMax, intsOf, minI, maxI, bAll, bAny, bools, lComp, compL, iA, unset, ll]
  · rw [if_neg fun z => c1 z.1]
    refine ⟨y12, ?_⟩
    simp [b_law_l4, a1, c1, fnP, fnK, startD, sSeq, sAsg, sPar, sRet, sRetN, sIf, sExpr, sPass, eV, Rs.out, Rs.bind, Rs.bindN, outO, gT, gTs, gN, Y.e1, Y.e2, eC, aN, aC, eTup, lLst, eFrz, eMut, oMul, oSub, oAdd, oEq, oNe, oLt, oLe, oGt, oGe, oIs, oIsNot, isN, oDiv, oMod, uNeg, uNot, uRev, eqD, ofO, finP, Y.tB, Y.tT, Y.tAnd, Y.tOr, Y.tNot, Y.tYes, eAnd, eOr, eIf, eCh, truth, eB, lB, eIs, eCall, lCall, instD, bLen, bInt, seqOf, lstOf, ownL, oIx, ixD, dctOf, atI, ixN, bMin, bMax, intsOf, minI, maxI, bAll, bAny, bools, lComp, compL, iA, unset, ll]
theorem lm (k0 : 0 ≤ k) (k1 : k < 40) (l0 : 0 ≤ l) (lk : l < k) (mo : most < 41) : ∀ (ms : List Int) (acc : List (List Int)) (y11 y12 : Option D), (∀ m ∈ ms, 1 ≤ m ∧ m ≤ k) → acc.length + ms.length < 100000 →
    ∃ z11 z12, forL (gN 11) b_law_l4 (ms.map .int) [s0, some (.loc 0), y2, some (.int k), y4, y5, y6, y7, some (.int most), some (.fl (acc.map rowD)), some (.int l), y11, y12, y13, y14] h = .nx [s0, some (.loc 0), y2, some (.int k), y4, y5, y6, y7, some (.int most), some (.fl ((acc ++ ms.flatMap (selL most k l)).map rowD)), some (.int l), z11, z12, y13, y14] h
  | [], acc, y11, y12, _, _ => ⟨y11, y12, by simp [forL]⟩
  | m :: ms, acc, y11, y12, hm, hl => by
    have m0 := hm m List.mem_cons_self
    simp only [List.length_cons] at hl
    obtain ⟨z, e1⟩ := l4_ok (s0 := s0) (y2 := y2) (y4 := y4) (y5 := y5) (y6 := y6) (y7 := y7) (y12 := y12) (y13 := y13) (y14 := y14) (h := h) k0 k1 l0 lk m0.1 m0.2 mo acc (by omega)
    have sl := selL_len (most := most) (k := k) (l := l) (m := m)
    obtain ⟨z11, z12, e2⟩ := lm k0 k1 l0 lk mo ms (acc ++ selL most k l m) (some (.int m)) z (fun x hx => hm x (List.mem_cons_of_mem _ hx)) (by rw [List.length_append]; omega)
    refine ⟨z11, z12, ?_⟩
    rw [List.flatMap_cons, ← List.append_assoc, ← e2]
    simp [forL, gN, e1]
theorem lL (k0 : 0 ≤ k) (k1 : k < 40) (mo : most < 41) : ∀ (ls : List Int) (acc : List (List Int)) (y10 y11 y12 : Option D), (∀ l ∈ ls, 0 ≤ l ∧ l < k) → acc.length + ls.length * 40 < 100000 →
    ∃ z10 z11 z12, forL (gN 10) b_law_l3 (ls.map .int) [s0, some (.loc 0), y2, some (.int k), y4, y5, y6, y7, some (.int most), some (.fl (acc.map rowD)), y10, y11, y12, y13, y14] h = .nx [s0, some (.loc 0), y2, some (.int k), y4, y5, y6, y7, some (.int most), some (.fl ((acc ++ ls.flatMap fun l => (intsF 1 k.toNat).flatMap fun m => selL most k l m).map rowD)), z10, z11, z12, y13, y14] h
  | [], acc, y10, y11, y12, _, _ => ⟨y10, y11, y12, by simp [forL]⟩
  | l :: ls, acc, y10, y11, y12, hm, hl => by
    have l0 := hm l List.mem_cons_self
    simp only [List.length_cons, Nat.add_mul] at hl
    have len : (intsF 1 k.toNat).length ≤ 40 := by simp [intsF]; omega
    obtain ⟨z1, z2, e1⟩ := lm (s0 := s0) (y2 := y2) (y4 := y4) (y5 := y5) (y6 := y6) (y7 := y7) (y13 := y13) (y14 := y14) (h := h) k0 k1 l0.1 l0.2 mo (intsF 1 k.toNat) acc y11 y12 (fun m hm => by have := mem_ints.mp hm; omega) (by omega)
    have fl := flat_len (f := selL most k l) (c := 1) (intsF 1 k.toNat) fun x _ => selL_len
    obtain ⟨z10, z11, z12, e2⟩ := lL k0 k1 mo ls (acc ++ (intsF 1 k.toNat).flatMap (selL most k l)) (some (.int l)) z1 z2 (fun x hx => hm x (List.mem_cons_of_mem _ hx)) (by rw [List.length_append]; omega)
    refine ⟨z10, z11, z12, ?_⟩
    rw [List.flatMap_cons, ← List.append_assoc, ← e2]
    have sm : small (k + 1) = true := by simp [small]; omega
    have s1 : small 1 = true := by decide
    have er : rangeD 1 (k + 1 - 1).toNat = (intsF 1 k.toNat).map D.int := by rw [range_ints, show k + 1 - 1 = k by omega]
    have st : b_law_l3 [s0, some (.loc 0), y2, some (.int k), y4, y5, y6, y7, some (.int most), some (.fl (acc.map rowD)), some (.int l), y11, y12, y13, y14] h = .nx [s0, some (.loc 0), y2, some (.int k), y4, y5, y6, y7, some (.int most), some (.fl ((acc ++ (intsF 1 k.toNat).flatMap (selL most k l)).map rowD)), some (.int l), z1, z2, y13, y14] h := by
      rw [← e1, ← er]
      simp [b_law_l3, sFor, iR2, sm, s1, fnP, fnK, startD, sSeq, sAsg, sPar, sRet, sRetN, sIf, sExpr, sPass, eV, Rs.out, Rs.bind, Rs.bindN, outO, gT, gTs, gN, Y.e1, Y.e2, eC, aN, aC, eTup, lLst, eFrz, eMut, oMul, oSub, oAdd, oEq, oNe, oLt, oLe, oGt, oGe, oIs, oIsNot, isN, oDiv, oMod, uNeg, uNot, uRev, eqD, ofO, finP, Y.tB, Y.tT, Y.tAnd, Y.tOr, Y.tNot, Y.tYes, eAnd, eOr, eIf, eCh, truth, eB, lB, eIs, eCall, lCall, instD, bLen, bInt, seqOf, lstOf, ownL, oIx, ixD, dctOf, atI, ixN, bMin, bMax, intsOf, minI, maxI, bAll, bAny, bools, lComp, compL, iA, unset, ll]
    simp [forL, gN, st]
theorem lK (mo : most < 41) : ∀ (ks : List Int) (acc : List (List Int)) (y3 y10 y11 y12 : Option D), (∀ k ∈ ks, 0 ≤ k ∧ k < 40) → acc.length + ks.length * 1600 < 90000 →
    ∃ z3 z10 z11 z12, forL (gN 3) b_law_l2 (ks.map .int) [s0, some (.loc 0), y2, y3, y4, y5, y6, y7, some (.int most), some (.fl (acc.map rowD)), y10, y11, y12, y13, y14] h = .nx [s0, some (.loc 0), y2, z3, y4, y5, y6, y7, some (.int most), some (.fl ((acc ++ ks.flatMap fun k => (intsF 0 k.toNat).flatMap fun l => (intsF 1 k.toNat).flatMap fun m => selL most k l m).map rowD)), z10, z11, z12, y13, y14] h
  | [], acc, y3, y10, y11, y12, _, _ => ⟨y3, y10, y11, y12, by simp [forL]⟩
  | k :: ks, acc, y3, y10, y11, y12, hm, hl => by
    have k0 := hm k List.mem_cons_self
    simp only [List.length_cons, Nat.add_mul] at hl
    have len : (intsF 0 k.toNat).length ≤ 40 := by simp [intsF]; omega
    have len1 : (intsF 1 k.toNat).length ≤ 40 := by simp [intsF]; omega
    obtain ⟨z0, z1, z2, e1⟩ := lL (s0 := s0) (y2 := y2) (y4 := y4) (y5 := y5) (y6 := y6) (y7 := y7) (y13 := y13) (y14 := y14) (h := h) k0.1 k0.2 mo (intsF 0 k.toNat) acc y10 y11 y12 (fun m hm => by have := mem_ints.mp hm; omega) (by omega)
    have fl := flat_len (f := fun l => (intsF 1 k.toNat).flatMap fun m => selL most k l m) (c := 40) (intsF 0 k.toNat) fun x _ => by
      have := flat_len (f := fun m => selL most k x m) (c := 1) (intsF 1 k.toNat) fun x _ => selL_len
      omega
    obtain ⟨z3, z10, z11, z12, e2⟩ := lK mo ks (acc ++ (intsF 0 k.toNat).flatMap fun l => (intsF 1 k.toNat).flatMap fun m => selL most k l m) (some (.int k)) z0 z1 z2 (fun x hx => hm x (List.mem_cons_of_mem _ hx)) (by rw [List.length_append]; omega)
    refine ⟨z3, z10, z11, z12, ?_⟩
    rw [List.flatMap_cons, ← List.append_assoc, ← e2]
    have sm : small k = true := by simp [small]; omega
    have er : rangeD 0 k.toNat = (intsF 0 k.toNat).map D.int := range_ints _ _
    have st : b_law_l2 [s0, some (.loc 0), y2, some (.int k), y4, y5, y6, y7, some (.int most), some (.fl (acc.map rowD)), y10, y11, y12, y13, y14] h = .nx [s0, some (.loc 0), y2, some (.int k), y4, y5, y6, y7, some (.int most), some (.fl ((acc ++ (intsF 0 k.toNat).flatMap fun l => (intsF 1 k.toNat).flatMap fun m => selL most k l m).map rowD)), z0, z1, z2, y13, y14] h := by
      rw [← e1, ← er]
      simp [b_law_l2, sFor, iR1, sm, fnP, fnK, startD, sSeq, sAsg, sPar, sRet, sRetN, sIf, sExpr, sPass, eV, Rs.out, Rs.bind, Rs.bindN, outO, gT, gTs, gN, Y.e1, Y.e2, eC, aN, aC, eTup, lLst, eFrz, eMut, oMul, oSub, oAdd, oEq, oNe, oLt, oLe, oGt, oGe, oIs, oIsNot, isN, oDiv, oMod, uNeg, uNot, uRev, eqD, ofO, finP, Y.tB, Y.tT, Y.tAnd, Y.tOr, Y.tNot, Y.tYes, eAnd, eOr, eIf, eCh, truth, eB, lB, eIs, eCall, lCall, instD, bLen, bInt, seqOf, lstOf, ownL, oIx, ixD, dctOf, atI, ixN, bMin, bMax, intsOf, minI, maxI, bAll, bAny, bools, lComp, compL, iA, unset, ll]
    simp [forL, gN, st]
theorem accL_ne : ∀ x ∈ accL most, x ≠ [] := by
  intro x hx
  unfold accL at hx
  obtain ⟨k, _, h1⟩ := List.mem_flatMap.mp hx
  obtain ⟨l, _, h2⟩ := List.mem_flatMap.mp h1
  obtain ⟨m, _, h3⟩ := List.mem_flatMap.mp h2
  exact selL_ne x h3
/-! ### lists of rows, compared -/
theorem pyRows : ∀ rs : List (List Int), pyL h (rs.map rowD) = some (rs.map fun r => PyData.tuple (r.map .int))
  | [] => rfl
  | r :: rs => by simp [pyL, py_row, pyRows rs]
theorem canI : ∀ l : List Int, PyData.canLayAll0 (l.map .int) = true
  | [] => by simp [PyData.canLayAll0]
  | x :: xs => by simp [PyData.canLayAll0, PyData.canLay0, canI xs]
theorem canR : ∀ rs : List (List Int), PyData.canLayAll0 (rs.map fun r => PyData.tuple (r.map .int)) = true
  | [] => by simp [PyData.canLayAll0]
  | r :: rs => by simp [PyData.canLayAll0, PyData.canLay0, canI, canR rs]
theorem depR : ∀ rs : List (List Int), PyData.depthAll (rs.map fun r => PyData.tuple (r.map .int)) ≤ 1
  | [] => by simp [PyData.depthAll]
  | r :: rs => by
    have := depR rs
    simp [PyData.depthAll, PyData.depth, PySem.W.depth_ints]
    omega
theorem eq_rows (rs : List (List Int)) : eqD h (.fl (rs.map rowD)) (.fl (rs.map rowD)) = some true := by
  have sh : SeqAt.shaped (.list (rs.map fun r => PyData.tuple (r.map .int))) = true := by
    have := depR rs
    simp [SeqAt.shaped, PyData.canLay0, canR, PyData.depth]
    omega
  have eq := SeqAt.eqv_refl (.list (rs.map fun r => PyData.tuple (r.map .int))) (SeqAt.canLay_of_shaped sh)
  simp only [eqD, py, pyRows, Option.map_some, sh, Bool.and_self, if_true, eq]
theorem ne_rows (rs : List (List Int)) : oNe h (.fl (rs.map rowD)) (.fl (rs.map rowD)) = some (.bl false) := by
  simp [oNe, eq_rows]
theorem eq_rows' (rs : List (List Int)) : oEq h (.fl (rs.map rowD)) (.fl (rs.map rowD)) = some (.bl true) := by
  simp [oEq, eq_rows]
theorem pick_told {σ : Sl} (hσ : σ[8]? = some (some (.int most))) (hl : σ.length = 15) : ∀ rs : List (List Int), (∀ r ∈ rs, r ≠ []) →
    compL (gN 14) (Y.tB (Y.e2 oLe (Y.e2 oIx (eV 14) (eC (.int 0))) (eV 8))) (eV 14) σ (rs.map rowD) h = .ok ((rs.filter fun r => decide (r.headD 0 ≤ most)).map rowD) h
  | [], _ => rfl
  | r :: rs, hr => by
    have ih := pick_told hσ hl rs fun x hx => hr x (List.mem_cons_of_mem _ hx)
    cases r with
    | nil => exact absurd rfl (hr _ List.mem_cons_self)
    | cons x xs =>
      have g14 : (σ.set 14 (some (rowD (x :: xs))))[14]? = some (some (rowD (x :: xs))) := List.getElem?_set_self (by omega)
      have g8 : (σ.set 14 (some (rowD (x :: xs))))[8]? = some (some (.int most)) := by rw [List.getElem?_set_ne (by omega)]; exact hσ
      have e1 : oIx h (rowD (x :: xs)) (.int 0) = some (.int x) := by
        have : ¬ ((xs.length : Int) + 1 ≤ 0) := by omega
        have p : (0 : Int) < (xs.length : Int) + 1 := by omega
        simp [oIx, dctOf, ixD, seqOf, rowD, L2.atI, L2.ixN, p]
      by_cases c : x ≤ most
      · simp [compL, gN, Y.tB, Y.e2, eV, eC, Rs.bind, Rs.bindN, ofO, g14, g8, e1, oLe, c, ih]
      · simp [compL, gN, Y.tB, Y.e2, eV, eC, Rs.bind, Rs.bindN, ofO, g14, g8, e1, oLe, c, ih]
end
end K27
end

section
set_option maxRecDepth 100000
set_option linter.all false
set_option maxHeartbeats 4000000
namespace K27
open Y PySem L2
section
variable {o : Ob} {N : Nat} {n k l m r most a : Int} {h : Hm} {s0 y2 y3 y4 y5 y6 y7 y8 y9 y10 y11 y12 y13 y14 : Option D}
theorem non4 : oNe h (.fl [.non, .non, .non, .non]) (.fl [.non, .non, .non, .non]) = some (.bl false) := by
  simp [oNe, eqD, py, pyL, SeqAt.shaped, PyData.canLay0, PyData.canLayAll0, PyData.depth, PyData.depthAll, PyData.eqv, PyData.eqvAll]
theorem told_map : toldR.map rowD = [quad 4 2 0 2, quad 6 4 2 4, quad 8 6 4 6, quad 9 4 1 2, quad 10 3 0 1, quad 10 6 3 4, quad 10 8 6 8, quad 12 10 8 10, quad 14 12 10 12, quad 15 8 4 4, quad 16 6 2 2, quad 16 10 6 6, quad 21 10 5 4, quad 27 16 10 8, quad 28 12 6 4] := rfl
/-- behind the laps -/
theorem after (hp : PenAt [o] 0 (N + 2)) : ∃ σ o', b_law_2 [s0, some (.loc 0), y2, y3, y4, y5, y6, y7, y8, y9, y10, y11, y12, y13, y14] [o] = .rt (.bl true) [o'] ∧ σ = () := by
  obtain ⟨r1, o1, e1, q0, q1, p1⟩ := dr1 (N := N + 1) hp (many := 20) (by decide) (by decide)
  have na := named (h := [o1]) (a := 3 + r1) (by omega) (by omega)
  obtain ⟨n1, n2, n3⟩ := na
  generalize hA : 3 + r1 = a at *
  obtain ⟨v1, v2, v3, v4⟩ := none4 (h := [o1])
  have a1 : mulOk a (a - 1) = true := mulOk_l (by omega) (by omega)
  have a2 : mulOk 2 (a - 2) = true := mulOk_l (by omega) (by omega)
  have a3 : mulOk a a = true := mulOk_l (by omega) (by omega)
  have a4 : mulOk 2 (a - 1) = true := mulOk_l (by omega) (by omega)
  have a5 : mulOk 2 a = true := mulOk_l (by omega) (by omega)
  have w1 := ne_word (h := [o1]) (x := "full") (i := a) (by decide +kernel)
  have w2 := ne_word (h := [o1]) (x := "squares") (i := a) (by decide +kernel)
  have w3 := ne_word (h := [o1]) (x := "pairs") (i := a) (by decide +kernel)
  have st3 : b_law_2 [s0, some (.loc 0), y2, y3, y4, y5, y6, y7, y8, y9, y10, y11, y12, y13, y14] [o] = b_law_4 [s0, some (.loc 0), y2, y3, y4, y5, y6, some (.int a), y8, y9, y10, y11, y12, y13, y14] [o1] := by
    by_cases c : 4 < a
    · have n1' := n1 c
      simp [b_law_2, b_law_3, e1, hA, c, a1, a2, n1', w1, fnP, fnK, startD, sSeq, sAsg, sPar, sRet, sRetN, sIf, sExpr, sPass, eV, Rs.out, Rs.bind, Rs.bindN, outO, gT, gTs, gN, Y.e1, Y.e2, eC, aN, aC, eTup, lLst, eFrz, eMut, oMul, oSub, oAdd, oEq, oLt, oLe, oGt, oGe, oIs, oIsNot, isN, oDiv, oMod, uNeg, uNot, uRev, ofO, finP, Y.tB, Y.tT, Y.tAnd, Y.tOr, Y.tNot, Y.tYes, eAnd, eOr, eIf, eCh, truth, eB, lB, eIs, eCall, lCall, instD, bLen, bInt, seqOf, lstOf, ownL, oIx, ixD, dctOf, atI, ixN, bMin, bMax, intsOf, minI, maxI, bAll, bAny, bools, lComp, compL, iA, unset, ll]
    · simp [b_law_2, b_law_3, e1, hA, c, fnP, fnK, startD, sSeq, sAsg, sPar, sRet, sRetN, sIf, sExpr, sPass, eV, Rs.out, Rs.bind, Rs.bindN, outO, gT, gTs, gN, Y.e1, Y.e2, eC, aN, aC, eTup, lLst, eFrz, eMut, oMul, oSub, oAdd, oEq, oLt, oLe, oGt, oGe, oIs, oIsNot, isN, oDiv, oMod, uNeg, uNot, uRev, ofO, finP, Y.tB, Y.tT, Y.tAnd, Y.tOr, Y.tNot, Y.tYes, eAnd, eOr, eIf, eCh, truth, eB, lB, eIs, eCall, lCall, instD, bLen, bInt, seqOf, lstOf, ownL, oIx, ixD, dctOf, atI, ixN, bMin, bMax, intsOf, minI, maxI, bAll, bAny, bools, lComp, compL, iA, unset, ll]
  have st6 : b_law_4 [s0, some (.loc 0), y2, y3, y4, y5, y6, some (.int a), y8, y9, y10, y11, y12, y13, y14] [o1] = b_law_6 [s0, some (.loc 0), y2, y3, y4, y5, y6, some (.int a), y8, y9, y10, y11, y12, y13, y14] [o1] := by
    simp [b_law_4, b_law_5, a3, a4, a5, n2, n3, w2, w3, fnP, fnK, startD, sSeq, sAsg, sPar, sRet, sRetN, sIf, sExpr, sPass, eV, Rs.out, Rs.bind, Rs.bindN, outO, gT, gTs, gN, Y.e1, Y.e2, eC, aN, aC, eTup, lLst, eFrz, eMut, oMul, oSub, oAdd, oEq, oLt, oLe, oGt, oGe, oIs, oIsNot, isN, oDiv, oMod, uNeg, uNot, uRev, ofO, finP, Y.tB, Y.tT, Y.tAnd, Y.tOr, Y.tNot, Y.tYes, eAnd, eOr, eIf, eCh, truth, eB, lB, eIs, eCall, lCall, instD, bLen, bInt, seqOf, lstOf, ownL, oIx, ixD, dctOf, atI, ixN, bMin, bMax, intsOf, minI, maxI, bAll, bAny, bools, lComp, compL, iA, unset, ll]
  have n4 := non4 (h := [o1])
  have st7 : b_law_6 [s0, some (.loc 0), y2, y3, y4, y5, y6, some (.int a), y8, y9, y10, y11, y12, y13, y14] [o1] = b_law_7 [s0, some (.loc 0), y2, y3, y4, y5, y6, some (.int a), y8, y9, y10, y11, y12, y13, y14] [o1] := by
    simp [b_law_6, v1, v2, v3, v4, lMul, n4, fnP, fnK, startD, sSeq, sAsg, sPar, sRet, sRetN, sIf, sExpr, sPass, eV, Rs.out, Rs.bind, Rs.bindN, outO, gT, gTs, gN, Y.e1, Y.e2, eC, aN, aC, eTup, lLst, eFrz, eMut, oMul, oSub, oAdd, oEq, oLt, oLe, oGt, oGe, oIs, oIsNot, isN, oDiv, oMod, uNeg, uNot, uRev, ofO, finP, Y.tB, Y.tT, Y.tAnd, Y.tOr, Y.tNot, Y.tYes, eAnd, eOr, eIf, eCh, truth, eB, lB, eIs, eCall, lCall, instD, bLen, bInt, seqOf, lstOf, ownL, oIx, ixD, dctOf, atI, ixN, bMin, bMax, intsOf, minI, maxI, bAll, bAny, bools, lComp, compL, iA, unset, ll]
  obtain ⟨r2, o2, e2, u0, u1, p2⟩ := dr1 (N := N) p1 (many := 37) (by decide) (by decide)
  generalize hM : 4 + r2 = most at *
  have m0 : 4 ≤ most := by omega
  have m1 : most < 41 := by omega
  have st8 : b_law_7 [s0, some (.loc 0), y2, y3, y4, y5, y6, some (.int a), y8, y9, y10, y11, y12, y13, y14] [o1] = b_law_8 [s0, some (.loc 0), y2, y3, y4, y5, y6, some (.int a), some (.int most), some (.fl (([] : List (List Int)).map rowD)), y10, y11, y12, y13, y14] [o2] := by
    simp [b_law_7, e2, hM, fnP, fnK, startD, sSeq, sAsg, sPar, sRet, sRetN, sIf, sExpr, sPass, eV, Rs.out, Rs.bind, Rs.bindN, outO, gT, gTs, gN, Y.e1, Y.e2, eC, aN, aC, eTup, lLst, eFrz, eMut, oMul, oSub, oAdd, oEq, oNe, oLt, oLe, oGt, oGe, oIs, oIsNot, isN, oDiv, oMod, uNeg, uNot, uRev, eqD, ofO, finP, Y.tB, Y.tT, Y.tAnd, Y.tOr, Y.tNot, Y.tYes, eAnd, eOr, eIf, eCh, truth, eB, lB, eIs, eCall, lCall, instD, bLen, bInt, seqOf, lstOf, ownL, oIx, ixD, dctOf, atI, ixN, bMin, bMax, intsOf, minI, maxI, bAll, bAny, bools, lComp, compL, iA, unset, ll]
  obtain ⟨z3, z10, z11, z12, e3⟩ := lK (s0 := s0) (y2 := y2) (y4 := y4) (y5 := y5) (y6 := y6) (y7 := some (.int a)) (y13 := y13) (y14 := y14) (h := [o2]) m1 (intsF 1 (most - 1).toNat) [] y3 y10 y11 y12 (fun m hm => by have := mem_ints.mp hm; omega) (by simp [intsF]; omega)
  have sm : small most = true := by simp [small]; omega
  have s1 : small 1 = true := by decide
  have er : rangeD 1 (most - 1).toNat = (intsF 1 (most - 1).toNat).map D.int := range_ints _ _
  have st9 : b_law_8 [s0, some (.loc 0), y2, y3, y4, y5, y6, some (.int a), some (.int most), some (.fl (([] : List (List Int)).map rowD)), y10, y11, y12, y13, y14] [o2] = b_law_9 [s0, some (.loc 0), y2, z3, y4, y5, y6, some (.int a), some (.int most), some (.fl ((accL most).map rowD)), z10, z11, z12, y13, y14] [o2] := by
    rw [← er] at e3
    rw [List.nil_append] at e3
    have e4 : sFor (iR2 (aC (eC (.int 1)) (aC (eV 8) (aN)))) (gN 3) (b_law_l2) [s0, some (.loc 0), y2, y3, y4, y5, y6, some (.int a), some (.int most), some (.fl (([] : List (List Int)).map rowD)), y10, y11, y12, y13, y14] [o2] = .nx [s0, some (.loc 0), y2, z3, y4, y5, y6, some (.int a), some (.int most), some (.fl ((accL most).map rowD)), z10, z11, z12, y13, y14] [o2] := by
      unfold accL
      rw [← e3]
      simp [sFor, iR2, aC, aN, eC, eV, Rs.bind, Rs.out, sm, s1]
    unfold b_law_8 sSeq
    rw [e4]
  have st12 : b_law_9 [s0, some (.loc 0), y2, z3, y4, y5, y6, some (.int a), some (.int most), some (.fl ((accL most).map rowD)), z10, z11, z12, y13, y14] [o2] = b_law_12 [s0, some (.loc 0), y2, z3, y4, y5, y6, some (.int a), some (.int most), some (.fl ((accL most).map rowD)), z10, z11, z12, some (.fl (toldR.map rowD)), y14] [o2] := by
    rw [told_map]
    simp [b_law_9, b_law_10, b_law_11, fnP, fnK, startD, sSeq, sAsg, sPar, sRet, sRetN, sIf, sExpr, sPass, eV, Rs.out, Rs.bind, Rs.bindN, outO, gT, gTs, gN, Y.e1, Y.e2, eC, aN, aC, eTup, lLst, eFrz, eMut, oMul, oSub, oAdd, oEq, oNe, oLt, oLe, oGt, oGe, oIs, oIsNot, isN, oDiv, oMod, uNeg, uNot, uRev, eqD, ofO, finP, Y.tB, Y.tT, Y.tAnd, Y.tOr, Y.tNot, Y.tYes, eAnd, eOr, eIf, eCh, truth, eB, lB, eIs, eCall, lCall, instD, bLen, bInt, seqOf, lstOf, ownL, oIx, ixD, dctOf, atI, ixN, bMin, bMax, intsOf, minI, maxI, bAll, bAny, bools, lComp, compL, iA, unset, ll]
  have fw := few (o := o2) (most := most) (by omega) m1
  rw [few_told m0 m1] at fw
  have ne1 := ne_rows (h := [o2]) (toldF most)
  have pk := pick_told (h := [o2]) (most := most) (σ := [s0, some (.loc 0), y2, z3, y4, y5, y6, some (.int a), some (.int most), some (.fl ((accL most).map rowD)), z10, z11, z12, some (.fl (toldR.map rowD)), none]) rfl rfl toldR (by decide)
  have tf : (toldR.filter fun r => decide (r.headD 0 ≤ most)) = toldF most := rfl
  rw [tf] at pk
  have tl : (toldF most).length ≤ line := Nat.le_trans (List.length_filter_le _ _) (by decide)
  have st13 : b_law_12 [s0, some (.loc 0), y2, z3, y4, y5, y6, some (.int a), some (.int most), some (.fl ((accL most).map rowD)), z10, z11, z12, some (.fl (toldR.map rowD)), y14] [o2] = b_law_13 [s0, some (.loc 0), y2, z3, y4, y5, y6, some (.int a), some (.int most), some (.fl ((accL most).map rowD)), z10, z11, z12, some (.fl (toldR.map rowD)), y14] [o2] := by
    simp [b_law_12, fw, mList, pk, ne1, tl, fnP, fnK, startD, sSeq, sAsg, sPar, sRet, sRetN, sIf, sExpr, sPass, eV, Rs.out, Rs.bind, Rs.bindN, outO, gT, gTs, gN, Y.e1, Y.e2, eC, aN, aC, eTup, lLst, eFrz, eMut, oMul, oSub, oAdd, oEq, oLt, oLe, oGt, oGe, oIs, oIsNot, isN, oDiv, oMod, uNeg, uNot, uRev, ofO, finP, Y.tB, Y.tT, Y.tAnd, Y.tOr, Y.tNot, Y.tYes, eAnd, eOr, eIf, eCh, truth, eB, lB, eIs, eCall, lCall, instD, bLen, bInt, seqOf, lstOf, ownL, oIx, ixD, dctOf, atI, ixN, bMin, bMax, intsOf, minI, maxI, bAll, bAny, bools, lComp, iA, unset, ll]
  have so := sortD_rows (accL most) accL_ne
  rw [law_told m0 m1] at so
  have eq1 := eq_rows' (h := [o2]) (toldF most)
  refine ⟨(), o2, ?_, rfl⟩
  rw [st3, st6, st7, st8, st9, st12, st13]
  simp [b_law_13, fw, mList, mSorted, so, eq1, fnP, fnK, startD, sSeq, sAsg, sPar, sRet, sRetN, sIf, sExpr, sPass, eV, Rs.out, Rs.bind, Rs.bindN, outO, gT, gTs, gN, Y.e1, Y.e2, eC, aN, aC, eTup, lLst, eFrz, eMut, oMul, oSub, oAdd, oNe, oLt, oLe, oGt, oGe, oIs, oIsNot, isN, oDiv, oMod, uNeg, uNot, uRev, ofO, finP, Y.tB, Y.tT, Y.tAnd, Y.tOr, Y.tNot, Y.tYes, eAnd, eOr, eIf, eCh, truth, eB, lB, eIs, eCall, lCall, instD, bLen, bInt, seqOf, lstOf, ownL, oIx, ixD, dctOf, atI, ixN, bMin, bMax, intsOf, minI, maxI, bAll, bAny, bools, lComp, compL, iA, unset, ll]
end
theorem law_true (ns : List Int) (hl : ns.length ≤ 63) : LawTrue d_law ns := by
  obtain ⟨o, e, hp⟩ := pen_made 89 131 1000000579 (by decide) ns hl []
  have e' : d_u_law_pen [.sq (ns.map .int)] [] = .ok (.loc 0) [o] := e
  have hp' : PenAt [o] 0 999999999 := hp
  have start : b_law [some (.sq (ns.map .int)), none, none, none, none, none, none, none, none, none, none, none, none, none, none] [] = b_law_1 [some (.sq (ns.map .int)), some (.loc 0), none, none, none, none, none, none, none, none, none, none, none, none, none] [o] := by
    simp [b_law, e', fnP, fnK, startD, sSeq, sAsg, sPar, sRet, sRetN, sIf, sExpr, sPass, eV, Rs.out, Rs.bind, Rs.bindN, outO, gT, gTs, gN, Y.e1, Y.e2, eC, aN, aC, eTup, lLst, eFrz, eMut, oMul, oSub, oAdd, oEq, oNe, oLt, oLe, oGt, oGe, oIs, oIsNot, isN, oDiv, oMod, uNeg, uNot, uRev, eqD, ofO, finP, Y.tB, Y.tT, Y.tAnd, Y.tOr, Y.tNot, Y.tYes, eAnd, eOr, eIf, eCh, truth, eB, lB, eIs, eCall, lCall, instD, bLen, bInt, seqOf, lstOf, ownL, oIx, ixD, dctOf, atI, ixN, bMin, bMax, intsOf, minI, maxI, bAll, bAny, bools, lComp, compL, iA, unset, ll]
  obtain ⟨σ', h', e2, z, o', hz, rfl, rfl, hq⟩ := forL_nx (g := gN 2) (b := b_law_l1) (fun j σ h => ∃ (z : List (Option D)) (o : Ob), z.length = 13 ∧ σ = some (.sq (ns.map .int)) :: some (.loc 0) :: z ∧ h = [o] ∧ PenAt [o] 0 (2 * j + 2)) (rangeD 0 10) 0
    [some (.sq (ns.map .int)), some (.loc 0), none, none, none, none, none, none, none, none, none, none, none, none, none] [o] ⟨[none, none, none, none, none, none, none, none, none, none, none, none, none], o, rfl, rfl, rfl, hp'.mono (by simp [rangeD])⟩
    (fun d j σ h _ ⟨z, o, hz, eσ, eh, hq⟩ => by
      subst eσ eh
      obtain ⟨y2, y3, y4, y5, y6, y7, y8, y9, y10, y11, y12, y13, y14, rfl⟩ : ∃ y2 y3 y4 y5 y6 y7 y8 y9 y10 y11 y12 y13 y14, z = [y2, y3, y4, y5, y6, y7, y8, y9, y10, y11, y12, y13, y14] := by
        match z, hz with
        | [a, b, c, d, e, f, g, h, i, j, k, l, m], _ => exact ⟨_, _, _, _, _, _, _, _, _, _, _, _, _, rfl⟩
      obtain ⟨z3, z4, z5, z6, o', e3, hq'⟩ := lap (N := 2 * j + 2) (s0 := some (.sq (ns.map .int))) (y2 := some d) (y3 := y3) (y4 := y4) (y5 := y5) (y6 := y6) (y7 := y7) (y8 := y8) (y9 := y9) (y10 := y10) (y11 := y11) (y12 := y12) (y13 := y13) (y14 := y14) (hq.mono (by omega))
      exact ⟨_, rfl, _, _, .inl e3, _, o', rfl, rfl, rfl, hq'⟩)
  obtain ⟨y2, y3, y4, y5, y6, y7, y8, y9, y10, y11, y12, y13, y14, rfl⟩ : ∃ y2 y3 y4 y5 y6 y7 y8 y9 y10 y11 y12 y13 y14, z = [y2, y3, y4, y5, y6, y7, y8, y9, y10, y11, y12, y13, y14] := by
    match z, hz with
    | [a, b, c, d, e, f, g, h, i, j, k, l, m], _ => exact ⟨_, _, _, _, _, _, _, _, _, _, _, _, _, rfl⟩
  obtain ⟨_, o3, e5, _⟩ := after (N := 0) (s0 := some (.sq (ns.map .int))) (y2 := y2) (y3 := y3) (y4 := y4) (y5 := y5) (y6 := y6) (y7 := y7) (y8 := y8) (y9 := y9) (y10 := y10) (y11 := y11) (y12 := y12) (y13 := y13) (y14 := y14) hq
  have e4 : b_law_1 [some (.sq (ns.map .int)), some (.loc 0), none, none, none, none, none, none, none, none, none, none, none, none, none] [o] = .rt (.bl true) [o3] := by
    have sm : small 10 = true := by decide
    simp only [b_law_1, sSeq, sFor, iR1, aC, aN, eC, Rs.bind, Rs.out, sm, if_true]
    rw [show (10 : Int).toNat = 10 from rfl, e2]
    exact e5
  refine ⟨[], ?_⟩
  show fnP 15 b_law [.sq (ns.map .int)] [] = _
  unfold fnP
  rw [show startD 15 [D.sq (ns.map .int)] = [some (.sq (ns.map .int)), none, none, none, none, none, none, none, none, none, none, none, none, none, none] from rfl, start, e4]
  simp [finP, D.low, sealed]
end K27
end

section
set_option Elab.async false
set_option linter.all false
set_option maxRecDepth 100000
namespace K27
open PySem PySem.Spec PyProof.Rows L2 Y
theorem all_mk {P : Program} {w : World} {K : PySem.W.Frag} {h : Heap} {mg : Str → Option Value} {fa : Addr} (X : K.In h) (G : h.Ns mainGlobals mg) (hfa : mg "law" = some (.ref fa))
    {f0 : Addr} {od0 an0 : Option Addr} {sl0 : Array (Option Value)} {oc0 kV0 dc0 pm0 cd0 ct0 : Value}
    (a0 : PySem.W.nsIn K mainGlobals "_law_pen" = some (some (.ref f0))) (l0 : K.lookup f0 = some ⟨oc0, od0, .func (PySem.W.fnOf "_law_pen" "_law_pen" (defArgs s_u_law_pen) (defBody s_u_law_pen) (defScope s_u_law_pen) .none kV0 dc0 pm0 an0 cd0 ct0), sl0⟩) (c0 : PySem.W.codeIn K cd0 "_law_pen" = true) (k0 : PySem.W.keepIn K (.ref f0) = true)
    {f1 : Addr} {od1 an1 : Option Addr} {sl1 : Array (Option Value)} {oc1 kV1 dc1 pm1 cd1 ct1 : Value}
    (a1 : PySem.W.nsIn K mainGlobals "_law_at_two" = some (some (.ref f1))) (l1 : K.lookup f1 = some ⟨oc1, od1, .func (PySem.W.fnOf "_law_at_two" "_law_at_two" (defArgs s_u_law_at_two) (defBody s_u_law_at_two) (defScope s_u_law_at_two) .none kV1 dc1 pm1 an1 cd1 ct1), sl1⟩) (c1 : PySem.W.codeIn K cd1 "_law_at_two" = true) (k1 : PySem.W.keepIn K (.ref f1) = true)
    {f2 : Addr} {od2 an2 : Option Addr} {sl2 : Array (Option Value)} {oc2 kV2 dc2 pm2 cd2 ct2 : Value}
    (a2 : PySem.W.nsIn K mainGlobals "_law_draw" = some (some (.ref f2))) (l2 : K.lookup f2 = some ⟨oc2, od2, .func (PySem.W.fnOf "_law_draw" "_law_draw" (defArgs s_u_law_draw) (defBody s_u_law_draw) (defScope s_u_law_draw) .none kV2 dc2 pm2 an2 cd2 ct2), sl2⟩) (c2 : PySem.W.codeIn K cd2 "_law_draw" = true) (k2 : PySem.W.keepIn K (.ref f2) = true)
    {f3 : Addr} {od3 an3 : Option Addr} {sl3 : Array (Option Value)} {oc3 kV3 dc3 pm3 cd3 ct3 : Value}
    (a3 : PySem.W.nsIn K mainGlobals "is_whole" = some (some (.ref f3))) (l3 : K.lookup f3 = some ⟨oc3, od3, .func (PySem.W.fnOf "is_whole" "is_whole" (defArgs s_is_whole) (defBody s_is_whole) (defScope s_is_whole) .none kV3 dc3 pm3 an3 cd3 ct3), sl3⟩) (c3 : PySem.W.codeIn K cd3 "is_whole" = true) (k3 : PySem.W.keepIn K (.ref f3) = true)
    {f4 : Addr} {od4 an4 : Option Addr} {sl4 : Array (Option Value)} {oc4 kV4 dc4 pm4 cd4 ct4 : Value}
    (a4 : PySem.W.nsIn K mainGlobals "is_count" = some (some (.ref f4))) (l4 : K.lookup f4 = some ⟨oc4, od4, .func (PySem.W.fnOf "is_count" "is_count" (defArgs s_is_count) (defBody s_is_count) (defScope s_is_count) .none kV4 dc4 pm4 an4 cd4 ct4), sl4⟩) (c4 : PySem.W.codeIn K cd4 "is_count" = true) (k4 : PySem.W.keepIn K (.ref f4) = true)
    {f5 : Addr} {od5 an5 : Option Addr} {sl5 : Array (Option Value)} {oc5 kV5 dc5 pm5 cd5 ct5 : Value}
    (a5 : PySem.W.nsIn K mainGlobals "are_numbers" = some (some (.ref f5))) (l5 : K.lookup f5 = some ⟨oc5, od5, .func (PySem.W.fnOf "are_numbers" "are_numbers" (defArgs s_are_numbers) (defBody s_are_numbers) (defScope s_are_numbers) .none kV5 dc5 pm5 an5 cd5 ct5), sl5⟩) (c5 : PySem.W.codeIn K cd5 "are_numbers" = true) (k5 : PySem.W.keepIn K (.ref f5) = true)
    {f6 : Addr} {od6 an6 : Option Addr} {sl6 : Array (Option Value)} {oc6 kV6 dc6 pm6 cd6 ct6 : Value}
    (a6 : PySem.W.nsIn K mainGlobals "need_numbers" = some (some (.ref f6))) (l6 : K.lookup f6 = some ⟨oc6, od6, .func (PySem.W.fnOf "need_numbers" "need_numbers" (defArgs s_need_numbers) (defBody s_need_numbers) (defScope s_need_numbers) .none kV6 dc6 pm6 an6 cd6 ct6), sl6⟩) (c6 : PySem.W.codeIn K cd6 "need_numbers" = true) (k6 : PySem.W.keepIn K (.ref f6) = true)
    {f7 : Addr} {od7 an7 : Option Addr} {sl7 : Array (Option Value)} {oc7 kV7 dc7 pm7 cd7 ct7 : Value}
    (a7 : PySem.W.nsIn K mainGlobals "square_of_difference" = some (some (.ref f7))) (l7 : K.lookup f7 = some ⟨oc7, od7, .func (PySem.W.fnOf "square_of_difference" "square_of_difference" (defArgs s_square_of_difference) (defBody s_square_of_difference) (defScope s_square_of_difference) .none kV7 dc7 pm7 an7 cd7 ct7), sl7⟩) (c7 : PySem.W.codeIn K cd7 "square_of_difference" = true) (k7 : PySem.W.keepIn K (.ref f7) = true)
    {f8 : Addr} {od8 an8 : Option Addr} {sl8 : Array (Option Value)} {oc8 kV8 dc8 pm8 cd8 ct8 : Value}
    (a8 : PySem.W.nsIn K mainGlobals "rays_in" = some (some (.ref f8))) (l8 : K.lookup f8 = some ⟨oc8, od8, .func (PySem.W.fnOf "rays_in" "rays_in" (defArgs s_rays_in) (defBody s_rays_in) (defScope s_rays_in) .none kV8 dc8 pm8 an8 cd8 ct8), sl8⟩) (c8 : PySem.W.codeIn K cd8 "rays_in" = true) (k8 : PySem.W.keepIn K (.ref f8) = true)
    {f9 : Addr} {od9 an9 : Option Addr} {sl9 : Array (Option Value)} {oc9 kV9 dc9 pm9 cd9 ct9 : Value}
    (a9 : PySem.W.nsIn K mainGlobals "times_in" = some (some (.ref f9))) (l9 : K.lookup f9 = some ⟨oc9, od9, .func (PySem.W.fnOf "times_in" "times_in" (defArgs s_times_in) (defBody s_times_in) (defScope s_times_in) .none kV9 dc9 pm9 an9 cd9 ct9), sl9⟩) (c9 : PySem.W.codeIn K cd9 "times_in" = true) (k9 : PySem.W.keepIn K (.ref f9) = true)
    {f10 : Addr} {od10 an10 : Option Addr} {sl10 : Array (Option Value)} {oc10 kV10 dc10 pm10 cd10 ct10 : Value}
    (a10 : PySem.W.nsIn K mainGlobals "balanced_in" = some (some (.ref f10))) (l10 : K.lookup f10 = some ⟨oc10, od10, .func (PySem.W.fnOf "balanced_in" "balanced_in" (defArgs s_balanced_in) (defBody s_balanced_in) (defScope s_balanced_in) .none kV10 dc10 pm10 an10 cd10 ct10), sl10⟩) (c10 : PySem.W.codeIn K cd10 "balanced_in" = true) (k10 : PySem.W.keepIn K (.ref f10) = true)
    {f11 : Addr} {od11 an11 : Option Addr} {sl11 : Array (Option Value)} {oc11 kV11 dc11 pm11 cd11 ct11 : Value}
    (a11 : PySem.W.nsIn K mainGlobals "turned_in" = some (some (.ref f11))) (l11 : K.lookup f11 = some ⟨oc11, od11, .func (PySem.W.fnOf "turned_in" "turned_in" (defArgs s_turned_in) (defBody s_turned_in) (defScope s_turned_in) .none kV11 dc11 pm11 an11 cd11 ct11), sl11⟩) (c11 : PySem.W.codeIn K cd11 "turned_in" = true) (k11 : PySem.W.keepIn K (.ref f11) = true)
    {f12 : Addr} {od12 an12 : Option Addr} {sl12 : Array (Option Value)} {oc12 kV12 dc12 pm12 cd12 ct12 : Value}
    (a12 : PySem.W.nsIn K mainGlobals "can_be_in" = some (some (.ref f12))) (l12 : K.lookup f12 = some ⟨oc12, od12, .func (PySem.W.fnOf "can_be_in" "can_be_in" (defArgs s_can_be_in) (defBody s_can_be_in) (defScope s_can_be_in) .none kV12 dc12 pm12 an12 cd12 ct12), sl12⟩) (c12 : PySem.W.codeIn K cd12 "can_be_in" = true) (k12 : PySem.W.keepIn K (.ref f12) = true)
    {f13 : Addr} {od13 an13 : Option Addr} {sl13 : Array (Option Value)} {oc13 kV13 dc13 pm13 cd13 ct13 : Value}
    (a13 : PySem.W.nsIn K mainGlobals "is_at_two" = some (some (.ref f13))) (l13 : K.lookup f13 = some ⟨oc13, od13, .func (PySem.W.fnOf "is_at_two" "is_at_two" (defArgs s_is_at_two) (defBody s_is_at_two) (defScope s_is_at_two) .none kV13 dc13 pm13 an13 cd13 ct13), sl13⟩) (c13 : PySem.W.codeIn K cd13 "is_at_two" = true) (k13 : PySem.W.keepIn K (.ref f13) = true)
    {f14 : Addr} {od14 an14 : Option Addr} {sl14 : Array (Option Value)} {oc14 kV14 dc14 pm14 cd14 ct14 : Value}
    (a14 : PySem.W.nsIn K mainGlobals "kind_in_told" = some (some (.ref f14))) (l14 : K.lookup f14 = some ⟨oc14, od14, .func (PySem.W.fnOf "kind_in_told" "kind_in_told" (defArgs s_kind_in_told) (defBody s_kind_in_told) (defScope s_kind_in_told) .none kV14 dc14 pm14 an14 cd14 ct14), sl14⟩) (c14 : PySem.W.codeIn K cd14 "kind_in_told" = true) (k14 : PySem.W.keepIn K (.ref f14) = true)
    {f15 : Addr} {od15 an15 : Option Addr} {sl15 : Array (Option Value)} {oc15 kV15 dc15 pm15 cd15 ct15 : Value}
    (a15 : PySem.W.nsIn K mainGlobals "kind_at_two" = some (some (.ref f15))) (l15 : K.lookup f15 = some ⟨oc15, od15, .func (PySem.W.fnOf "kind_at_two" "kind_at_two" (defArgs s_kind_at_two) (defBody s_kind_at_two) (defScope s_kind_at_two) .none kV15 dc15 pm15 an15 cd15 ct15), sl15⟩) (c15 : PySem.W.codeIn K cd15 "kind_at_two" = true) (k15 : PySem.W.keepIn K (.ref f15) = true)
    {f16 : Addr} {od16 an16 : Option Addr} {sl16 : Array (Option Value)} {oc16 kV16 dc16 pm16 cd16 ct16 : Value}
    (a16 : PySem.W.nsIn K mainGlobals "can_be" = some (some (.ref f16))) (l16 : K.lookup f16 = some ⟨oc16, od16, .func (PySem.W.fnOf "can_be" "can_be" (defArgs s_can_be) (defBody s_can_be) (defScope s_can_be) .none kV16 dc16 pm16 an16 cd16 ct16), sl16⟩) (c16 : PySem.W.codeIn K cd16 "can_be" = true) (k16 : PySem.W.keepIn K (.ref f16) = true)
    {f17 : Addr} {od17 an17 : Option Addr} {sl17 : Array (Option Value)} {oc17 kV17 dc17 pm17 cd17 ct17 : Value}
    (a17 : PySem.W.nsIn K mainGlobals "need_count" = some (some (.ref f17))) (l17 : K.lookup f17 = some ⟨oc17, od17, .func (PySem.W.fnOf "need_count" "need_count" (defArgs s_need_count) (defBody s_need_count) (defScope s_need_count) .none kV17 dc17 pm17 an17 cd17 ct17), sl17⟩) (c17 : PySem.W.codeIn K cd17 "need_count" = true) (k17 : PySem.W.keepIn K (.ref f17) = true)
    {f18 : Addr} {od18 an18 : Option Addr} {sl18 : Array (Option Value)} {oc18 kV18 dc18 pm18 cd18 ct18 : Value}
    (a18 : PySem.W.nsIn K mainGlobals "at_two_in" = some (some (.ref f18))) (l18 : K.lookup f18 = some ⟨oc18, od18, .func (PySem.W.fnOf "at_two_in" "at_two_in" (defArgs s_at_two_in) (defBody s_at_two_in) (defScope s_at_two_in) .none kV18 dc18 pm18 an18 cd18 ct18), sl18⟩) (c18 : PySem.W.codeIn K cd18 "at_two_in" = true) (k18 : PySem.W.keepIn K (.ref f18) = true)
    {f19 : Addr} {od19 an19 : Option Addr} {sl19 : Array (Option Value)} {oc19 kV19 dc19 pm19 cd19 ct19 : Value}
    (a19 : PySem.W.nsIn K mainGlobals "few_at_two" = some (some (.ref f19))) (l19 : K.lookup f19 = some ⟨oc19, od19, .func (PySem.W.fnOf "few_at_two" "few_at_two" (defArgs s_few_at_two) (defBody s_few_at_two) (defScope s_few_at_two) .none kV19 dc19 pm19 an19 cd19 ct19), sl19⟩) (c19 : PySem.W.codeIn K cd19 "few_at_two" = true) (k19 : PySem.W.keepIn K (.ref f19) = true)
    {f20 : Addr} {od20 an20 : Option Addr} {sl20 : Array (Option Value)} {oc20 kV20 dc20 pm20 cd20 ct20 : Value}
    (a20 : PySem.W.nsIn K mainGlobals "numbers_at_two" = some (some (.ref f20))) (l20 : K.lookup f20 = some ⟨oc20, od20, .func (PySem.W.fnOf "numbers_at_two" "numbers_at_two" (defArgs s_numbers_at_two) (defBody s_numbers_at_two) (defScope s_numbers_at_two) .none kV20 dc20 pm20 an20 cd20 ct20), sl20⟩) (c20 : PySem.W.codeIn K cd20 "numbers_at_two" = true) (k20 : PySem.W.keepIn K (.ref f20) = true)
    {f21 : Addr} {od21 an21 : Option Addr} {sl21 : Array (Option Value)} {oc21 kV21 dc21 pm21 cd21 ct21 : Value}
    (a21 : PySem.W.nsIn K mainGlobals "other_rays" = some (some (.ref f21))) (l21 : K.lookup f21 = some ⟨oc21, od21, .func (PySem.W.fnOf "other_rays" "other_rays" (defArgs s_other_rays) (defBody s_other_rays) (defScope s_other_rays) .none kV21 dc21 pm21 an21 cd21 ct21), sl21⟩) (c21 : PySem.W.codeIn K cd21 "other_rays" = true) (k21 : PySem.W.keepIn K (.ref f21) = true)
    {f22 : Addr} {od22 an22 : Option Addr} {sl22 : Array (Option Value)} {oc22 kV22 dc22 pm22 cd22 ct22 : Value}
    (a22 : PySem.W.nsIn K mainGlobals "ray_times" = some (some (.ref f22))) (l22 : K.lookup f22 = some ⟨oc22, od22, .func (PySem.W.fnOf "ray_times" "ray_times" (defArgs s_ray_times) (defBody s_ray_times) (defScope s_ray_times) .none kV22 dc22 pm22 an22 cd22 ct22), sl22⟩) (c22 : PySem.W.codeIn K cd22 "ray_times" = true) (k22 : PySem.W.keepIn K (.ref f22) = true)
    {f23 : Addr} {od23 an23 : Option Addr} {sl23 : Array (Option Value)} {oc23 kV23 dc23 pm23 cd23 ct23 : Value}
    (a23 : PySem.W.nsIn K mainGlobals "_law_kind" = some (some (.ref f23))) (l23 : K.lookup f23 = some ⟨oc23, od23, .func (PySem.W.fnOf "_law_kind" "_law_kind" (defArgs s_u_law_kind) (defBody s_u_law_kind) (defScope s_u_law_kind) .none kV23 dc23 pm23 an23 cd23 ct23), sl23⟩) (c23 : PySem.W.codeIn K cd23 "_law_kind" = true) (k23 : PySem.W.keepIn K (.ref f23) = true)
    {f24 : Addr} {od24 an24 : Option Addr} {sl24 : Array (Option Value)} {oc24 kV24 dc24 pm24 cd24 ct24 : Value}
    (a24 : PySem.W.nsIn K mainGlobals "law" = some (some (.ref f24))) (l24 : K.lookup f24 = some ⟨oc24, od24, .func (PySem.W.fnOf "law" "law" (defArgs s_law) (defBody s_law) (defScope s_law) .none kV24 dc24 pm24 an24 cd24 ct24), sl24⟩) (c24 : PySem.W.codeIn K cd24 "law" = true) (k24 : PySem.W.keepIn K (.ref f24) = true)
    (z_int : PySem.W.nsIn K mainGlobals "int" = some none)
    (z_list : PySem.W.nsIn K mainGlobals "list" = some none)
    (z_len : PySem.W.nsIn K mainGlobals "len" = some none)
    (z_isinstance : PySem.W.nsIn K mainGlobals "isinstance" = some none)
    (z_bool : PySem.W.nsIn K mainGlobals "bool" = some none)
    (z_tuple : PySem.W.nsIn K mainGlobals "tuple" = some none)
    (z_all : PySem.W.nsIn K mainGlobals "all" = some none)
    (z_isqrt : PySem.W.nsIn K mainGlobals "isqrt" = some (some (.builtin "math.isqrt")))
    (z_min : PySem.W.nsIn K mainGlobals "min" = some none)
    (z_range : PySem.W.nsIn K mainGlobals "range" = some none)
    (z_sorted : PySem.W.nsIn K mainGlobals "sorted" = some none)
    (z_repr : PySem.W.nsIn K mainGlobals "repr" = some none)
    : ∃ (fd : FuncData) (cl : Nat → Addr), (∀ (s : Shared) (u : Value), BindsTo s fd ⟨[u], []⟩ [("script", u)]) ∧ ∀ base : Heap, K.In base → base.Ns mainGlobals mg → FnG P w K mg base 7 fa fd ["script"] (spP K cl 1 d_law) := by
  have ef := hfa.symm.trans (PySem.W.mg_of X G a24)
  cases ef
  refine ⟨PySem.W.fnOf "law" "law" (defArgs s_law) (defBody s_law) (defScope s_law) .none kV24 dc24 pm24 an24 cd24 ct24, fun _ => 0, fun s v => .of_eq rfl, fun base _ _ => ?_⟩
  have y_int := PySem.W.mg_none_of X G z_int
  have y_list := PySem.W.mg_none_of X G z_list
  have y_len := PySem.W.mg_none_of X G z_len
  have y_isinstance := PySem.W.mg_none_of X G z_isinstance
  have y_bool := PySem.W.mg_none_of X G z_bool
  have y_tuple := PySem.W.mg_none_of X G z_tuple
  have y_all := PySem.W.mg_none_of X G z_all
  have y_isqrt := PySem.W.mg_of X G z_isqrt
  have y_min := PySem.W.mg_none_of X G z_min
  have y_range := PySem.W.mg_none_of X G z_range
  have y_sorted := PySem.W.mg_none_of X G z_sorted
  have y_repr := PySem.W.mg_none_of X G z_repr
  have F0 := fun_mk (st := s_u_law_pen) l0 c0 k0
  have b0 := F0.binds (ps := ["script"]) fun _ _ _ _ _ _ us hl => match us, hl with | [_], _ => rfl
  have D0 : Def P w K mg base 1 "_law_pen" ["script"] (spP K (fun _ => 0) 1 d_u_law_pen) := ⟨_, _, PySem.W.mg_of X G a0, k0, b0, fn_u_law_pen F0 y_int y_list ⟩
  have F1 := fun_mk (st := s_u_law_at_two) l1 c1 k1
  have b1 := F1.binds (ps := ["k", "r"]) fun _ _ _ _ _ _ us hl => match us, hl with | [_, _], _ => rfl
  have D1 : Def P w K mg base 1 "_law_at_two" ["k", "r"] (spP K (fun _ => 0) 2 d_u_law_at_two) := ⟨_, _, PySem.W.mg_of X G a1, k1, b1, fn_u_law_at_two F1  ⟩
  have F2 := fun_mk (st := s_u_law_draw) l2 c2 k2
  have b2 := F2.binds (ps := ["pen", "many"]) fun _ _ _ _ _ _ us hl => match us, hl with | [_, _], _ => rfl
  have D2 : Def P w K mg base 1 "_law_draw" ["pen", "many"] (spP K (fun _ => 0) 2 d_u_law_draw) := ⟨_, _, PySem.W.mg_of X G a2, k2, b2, fn_u_law_draw F2 y_len y_int ⟩
  have F3 := fun_mk (st := s_is_whole) l3 c3 k3
  have b3 := F3.binds (ps := ["value"]) fun _ _ _ _ _ _ us hl => match us, hl with | [_], _ => rfl
  have D3 : Def P w K mg base 1 "is_whole" ["value"] (spP K (fun _ => 0) 1 d_is_whole) := ⟨_, _, PySem.W.mg_of X G a3, k3, b3, fn_is_whole F3 y_isinstance y_int y_bool ⟩
  have F4 := fun_mk (st := s_is_count) l4 c4 k4
  have b4 := F4.binds (ps := ["value"]) fun _ _ _ _ _ _ us hl => match us, hl with | [_], _ => rfl
  have D4 : Def P w K mg base 2 "is_count" ["value"] (spP K (fun _ => 0) 1 d_is_count) := ⟨_, _, PySem.W.mg_of X G a4, k4, b4, fn_is_count F4  D3⟩
  have F5 := fun_mk (st := s_are_numbers) l5 c5 k5
  have b5 := F5.binds (ps := ["value"]) fun _ _ _ _ _ _ us hl => match us, hl with | [_], _ => rfl
  have D5 : Def P w K mg base 3 "are_numbers" ["value"] (spP K (fun _ => 0) 1 d_are_numbers) := ⟨_, _, PySem.W.mg_of X G a5, k5, b5, fn_are_numbers F5 y_isinstance y_tuple y_len y_all D4⟩
  have F6 := fun_mk (st := s_need_numbers) l6 c6 k6
  have b6 := F6.binds (ps := ["numbers"]) fun _ _ _ _ _ _ us hl => match us, hl with | [_], _ => rfl
  have D6 : Def P w K mg base 4 "need_numbers" ["numbers"] (spP K (fun _ => 0) 1 d_need_numbers) := ⟨_, _, PySem.W.mg_of X G a6, k6, b6, fn_need_numbers F6  D5⟩
  have F7 := fun_mk (st := s_square_of_difference) l7 c7 k7
  have b7 := F7.binds (ps := ["numbers"]) fun _ _ _ _ _ _ us hl => match us, hl with | [_], _ => rfl
  have D7 : Def P w K mg base 1 "square_of_difference" ["numbers"] (spP K (fun _ => 0) 1 d_square_of_difference) := ⟨_, _, PySem.W.mg_of X G a7, k7, b7, fn_square_of_difference F7  ⟩
  have F8 := fun_mk (st := s_rays_in) l8 c8 k8
  have b8 := F8.binds (ps := ["numbers"]) fun _ _ _ _ _ _ us hl => match us, hl with | [_], _ => rfl
  have D8 : Def P w K mg base 2 "rays_in" ["numbers"] (spP K (fun _ => 0) 1 d_rays_in) := ⟨_, _, PySem.W.mg_of X G a8, k8, b8, fn_rays_in F8 y_isqrt D7⟩
  have F9 := fun_mk (st := s_times_in) l9 c9 k9
  have b9 := F9.binds (ps := ["numbers"]) fun _ _ _ _ _ _ us hl => match us, hl with | [_], _ => rfl
  have D9 : Def P w K mg base 3 "times_in" ["numbers"] (spP K (fun _ => 0) 1 d_times_in) := ⟨_, _, PySem.W.mg_of X G a9, k9, b9, fn_times_in F9  D8⟩
  have F10 := fun_mk (st := s_balanced_in) l10 c10 k10
  have b10 := F10.binds (ps := ["numbers"]) fun _ _ _ _ _ _ us hl => match us, hl with | [_], _ => rfl
  have D10 : Def P w K mg base 1 "balanced_in" ["numbers"] (spP K (fun _ => 0) 1 d_balanced_in) := ⟨_, _, PySem.W.mg_of X G a10, k10, b10, fn_balanced_in F10  ⟩
  have F11 := fun_mk (st := s_turned_in) l11 c11 k11
  have b11 := F11.binds (ps := ["numbers"]) fun _ _ _ _ _ _ us hl => match us, hl with | [_], _ => rfl
  have D11 : Def P w K mg base 1 "turned_in" ["numbers"] (spP K (fun _ => 0) 1 d_turned_in) := ⟨_, _, PySem.W.mg_of X G a11, k11, b11, fn_turned_in F11  ⟩
  have F12 := fun_mk (st := s_can_be_in) l12 c12 k12
  have b12 := F12.binds (ps := ["numbers"]) fun _ _ _ _ _ _ us hl => match us, hl with | [_], _ => rfl
  have D12 : Def P w K mg base 4 "can_be_in" ["numbers"] (spP K (fun _ => 0) 1 d_can_be_in) := ⟨_, _, PySem.W.mg_of X G a12, k12, b12, fn_can_be_in F12 y_min y_all D10 D11 D9⟩
  have F13 := fun_mk (st := s_is_at_two) l13 c13 k13
  have b13 := F13.binds (ps := ["numbers"]) fun _ _ _ _ _ _ us hl => match us, hl with | [_], _ => rfl
  have D13 : Def P w K mg base 5 "is_at_two" ["numbers"] (spP K (fun _ => 0) 1 d_is_at_two) := ⟨_, _, PySem.W.mg_of X G a13, k13, b13, fn_is_at_two F13  D8 D12⟩
  have F14 := fun_mk (st := s_kind_in_told) l14 c14 k14
  have b14 := F14.binds (ps := ["numbers"]) fun _ _ _ _ _ _ us hl => match us, hl with | [_], _ => rfl
  have D14 : Def P w K mg base 4 "kind_in_told" ["numbers"] (spP K (fun _ => 0) 1 d_kind_in_told) := ⟨_, _, PySem.W.mg_of X G a14, k14, b14, fn_kind_in_told F14  D9⟩
  have F15 := fun_mk (st := s_kind_at_two) l15 c15 k15
  have b15 := F15.binds (ps := ["numbers"]) fun _ _ _ _ _ _ us hl => match us, hl with | [_], _ => rfl
  have D15 : Def P w K mg base 6 "kind_at_two" ["numbers"] (spP K (fun _ => 0) 1 d_kind_at_two) := ⟨_, _, PySem.W.mg_of X G a15, k15, b15, fn_kind_at_two F15  D6 D13 D14⟩
  have F16 := fun_mk (st := s_can_be) l16 c16 k16
  have b16 := F16.binds (ps := ["numbers"]) fun _ _ _ _ _ _ us hl => match us, hl with | [_], _ => rfl
  have D16 : Def P w K mg base 5 "can_be" ["numbers"] (spP K (fun _ => 0) 1 d_can_be) := ⟨_, _, PySem.W.mg_of X G a16, k16, b16, fn_can_be F16  D6 D12⟩
  have F17 := fun_mk (st := s_need_count) l17 c17 k17
  have b17 := F17.binds (ps := ["what", "value"]) fun _ _ _ _ _ _ us hl => match us, hl with | [_, _], _ => rfl
  have D17 : Def P w K mg base 3 "need_count" ["what", "value"] (spP K (fun _ => 0) 2 d_need_count) := ⟨_, _, PySem.W.mg_of X G a17, k17, b17, fn_need_count F17  D4⟩
  have F18 := fun_mk (st := s_at_two_in) l18 c18 k18
  have b18 := F18.binds (ps := ["k", "r"]) fun _ _ _ _ _ _ us hl => match us, hl with | [_, _], _ => rfl
  have D18 : Def P w K mg base 4 "at_two_in" ["k", "r"] (spP K (fun _ => 0) 2 d_at_two_in) := ⟨_, _, PySem.W.mg_of X G a18, k18, b18, fn_at_two_in F18  D5⟩
  have F19 := fun_mk (st := s_few_at_two) l19 c19 k19
  have b19 := F19.binds (ps := ["most"]) fun _ _ _ _ _ _ us hl => match us, hl with | [_], _ => rfl
  have D19 : Def P w K mg base 6 "few_at_two" ["most"] (spP K (fun _ => 0) 1 d_few_at_two) := ⟨_, _, PySem.W.mg_of X G a19, k19, b19, fn_few_at_two F19 y_range y_sorted y_tuple D17 D18 D13 D9⟩
  have F20 := fun_mk (st := s_numbers_at_two) l20 c20 k20
  have b20 := F20.binds (ps := ["k", "r"]) fun _ _ _ _ _ _ us hl => match us, hl with | [_, _], _ => rfl
  have D20 : Def P w K mg base 5 "numbers_at_two" ["k", "r"] (spP K (fun _ => 0) 2 d_numbers_at_two) := ⟨_, _, PySem.W.mg_of X G a20, k20, b20, fn_numbers_at_two F20  D17 D18⟩
  have F21 := fun_mk (st := s_other_rays) l21 c21 k21
  have b21 := F21.binds (ps := ["numbers"]) fun _ _ _ _ _ _ us hl => match us, hl with | [_], _ => rfl
  have D21 : Def P w K mg base 5 "other_rays" ["numbers"] (spP K (fun _ => 0) 1 d_other_rays) := ⟨_, _, PySem.W.mg_of X G a21, k21, b21, fn_other_rays F21  D6 D8⟩
  have F22 := fun_mk (st := s_ray_times) l22 c22 k22
  have b22 := F22.binds (ps := ["numbers"]) fun _ _ _ _ _ _ us hl => match us, hl with | [_], _ => rfl
  have D22 : Def P w K mg base 5 "ray_times" ["numbers"] (spP K (fun _ => 0) 1 d_ray_times) := ⟨_, _, PySem.W.mg_of X G a22, k22, b22, fn_ray_times F22  D6 D10 D9⟩
  have F23 := fun_mk (st := s_u_law_kind) l23 c23 k23
  have b23 := F23.binds (ps := ["numbers"]) fun _ _ _ _ _ _ us hl => match us, hl with | [_], _ => rfl
  have D23 : Def P w K mg base 6 "_law_kind" ["numbers"] (spP K (fun _ => 0) 1 d_u_law_kind) := ⟨_, _, PySem.W.mg_of X G a23, k23, b23, fn_u_law_kind F23 y_range D22⟩
  have F24 := fun_mk (st := s_law) l24 c24 k24
  have b24 := F24.binds (ps := ["script"]) fun _ _ _ _ _ _ us hl => match us, hl with | [_], _ => rfl
  exact fn_law F24 y_range y_repr y_list y_sorted D0 D2 D1 D20 D21 D16 D15 D23 D22 D19
end K27
open PySem PySem.W PyProof.Rows in
set_option maxHeartbeats 0 in
theorem PySem.Challenge.cw_sixtylines_k27_whole_numbers_at_two_holds : PySem.Challenge.rw_sixtylines_k27_whole_numbers_at_two.Holds := by
  w_on; o_law; k_head; (case hw => w_witness2)
  k_fill
  refine Y.walkG (l := PySem.Challenge.rw_sixtylines_k27_whole_numbers_at_two) (n := 63) (k := 7) (x := "script") (d := K27.d_law) rfl (by decide) rfl ⟨rfl, by decide, by decide⟩ (fun w h Y => PySem.W.kIn_of Y) K27.law_true ?F
  case F =>
    intro w mg fa h KX G hmg
    refine' K27.all_mk KX G hmg ?a0 ?l0 ?c0 ?k0 ?a1 ?l1 ?c1 ?k1 ?a2 ?l2 ?c2 ?k2 ?a3 ?l3 ?c3 ?k3 ?a4 ?l4 ?c4 ?k4 ?a5 ?l5 ?c5 ?k5 ?a6 ?l6 ?c6 ?k6 ?a7 ?l7 ?c7 ?k7 ?a8 ?l8 ?c8 ?k8 ?a9 ?l9 ?c9 ?k9 ?a10 ?l10 ?c10 ?k10 ?a11 ?l11 ?c11 ?k11 ?a12 ?l12 ?c12 ?k12 ?a13 ?l13 ?c13 ?k13 ?a14 ?l14 ?c14 ?k14 ?a15 ?l15 ?c15 ?k15 ?a16 ?l16 ?c16 ?k16 ?a17 ?l17 ?c17 ?k17 ?a18 ?l18 ?c18 ?k18 ?a19 ?l19 ?c19 ?k19 ?a20 ?l20 ?c20 ?k20 ?a21 ?l21 ?c21 ?k21 ?a22 ?l22 ?c22 ?k22 ?a23 ?l23 ?c23 ?k23 ?a24 ?l24 ?c24 ?k24 ?z_int ?z_list ?z_len ?z_isinstance ?z_bool ?z_tuple ?z_all ?z_isqrt ?z_min ?z_range ?z_sorted ?z_repr
    (case a0 => k_is)
    (case l0 => k_is)
    (case c0 => k_is)
    (case k0 => k_is)
    (case a1 => k_is)
    (case l1 => k_is)
    (case c1 => k_is)
    (case k1 => k_is)
    (case a2 => k_is)
    (case l2 => k_is)
    (case c2 => k_is)
    (case k2 => k_is)
    (case a3 => k_is)
    (case l3 => k_is)
    (case c3 => k_is)
    (case k3 => k_is)
    (case a4 => k_is)
    (case l4 => k_is)
    (case c4 => k_is)
    (case k4 => k_is)
    (case a5 => k_is)
    (case l5 => k_is)
    (case c5 => k_is)
    (case k5 => k_is)
    (case a6 => k_is)
    (case l6 => k_is)
    (case c6 => k_is)
    (case k6 => k_is)
    (case a7 => k_is)
    (case l7 => k_is)
    (case c7 => k_is)
    (case k7 => k_is)
    (case a8 => k_is)
    (case l8 => k_is)
    (case c8 => k_is)
    (case k8 => k_is)
    (case a9 => k_is)
    (case l9 => k_is)
    (case c9 => k_is)
    (case k9 => k_is)
    (case a10 => k_is)
    (case l10 => k_is)
    (case c10 => k_is)
    (case k10 => k_is)
    (case a11 => k_is)
    (case l11 => k_is)
    (case c11 => k_is)
    (case k11 => k_is)
    (case a12 => k_is)
    (case l12 => k_is)
    (case c12 => k_is)
    (case k12 => k_is)
    (case a13 => k_is)
    (case l13 => k_is)
    (case c13 => k_is)
    (case k13 => k_is)
    (case a14 => k_is)
    (case l14 => k_is)
    (case c14 => k_is)
    (case k14 => k_is)
    (case a15 => k_is)
    (case l15 => k_is)
    (case c15 => k_is)
    (case k15 => k_is)
    (case a16 => k_is)
    (case l16 => k_is)
    (case c16 => k_is)
    (case k16 => k_is)
    (case a17 => k_is)
    (case l17 => k_is)
    (case c17 => k_is)
    (case k17 => k_is)
    (case a18 => k_is)
    (case l18 => k_is)
    (case c18 => k_is)
    (case k18 => k_is)
    (case a19 => k_is)
    (case l19 => k_is)
    (case c19 => k_is)
    (case k19 => k_is)
    (case a20 => k_is)
    (case l20 => k_is)
    (case c20 => k_is)
    (case k20 => k_is)
    (case a21 => k_is)
    (case l21 => k_is)
    (case c21 => k_is)
    (case k21 => k_is)
    (case a22 => k_is)
    (case l22 => k_is)
    (case c22 => k_is)
    (case k22 => k_is)
    (case a23 => k_is)
    (case l23 => k_is)
    (case c23 => k_is)
    (case k23 => k_is)
    (case a24 => k_is)
    (case l24 => k_is)
    (case c24 => k_is)
    (case k24 => k_is)
    (case z_int => k_is)
    (case z_list => k_is)
    (case z_len => k_is)
    (case z_isinstance => k_is)
    (case z_bool => k_is)
    (case z_tuple => k_is)
    (case z_all => k_is)
    (case z_isqrt => k_is)
    (case z_min => k_is)
    (case z_range => k_is)
    (case z_sorted => k_is)
    (case z_repr => k_is)
end
