import PyProof.Rows.All
import Wide.All
import OpenK.AllK
import Wide.FinOn
import HandS.ForMost
import HandS.Exc
import HandS.IsInst
import HandS.TupAny
import HandS.Style
import HandS.ExcOwn
import HandS.RaiseMore
import HandS.Gcd
import KE.KMathG
import KE.DataMinMax
import HandS.Ends
import HandS.Iter
import KE.SortData
import HandS.ExcInit
import HandS.ExcField
import HandS.Deep
import HandS.Zip
import HandS.Conv
import HandS.DictComp
import HandS.TryMany
import KE.GoesMore
import KE.GoesEnum
import KE.KDictSum
import PyProof.Transfer
import HandS.NoneIn
import Flt.RightSqrt
import PySem.Challenge.RW_sixtylines_k25_whole_even_webs
set_option Elab.async false
set_option linter.all false
section
set_option Elab.async false
set_option linter.all false
/-! YA: the pure part of Y: values, the list-heap, and a computable meaning for each construct. -/
namespace Y
open PySem L2

/-- values: tuples and frozen lists are pure data, what is mutable is a place of the heap -/
inductive D where
  | non | bl (b : Bool) | int (i : Int) | str (x : Str)
  | tup (xs : List D) | fl (xs : List D) | sq (xs : List D) | loc (k : Nat)
  /-- an object of a class of the program (by its name) that is never changed any more -/
  | obj (c : Str) (ns : List Str) (ds : List D)

mutual
def D.beq : D → D → Bool
  | .non, .non => true
  | .bl a, .bl b => a == b
  | .int a, .int b => decide (a = b)
  | .str a, .str b => decide (a = b)
  | .tup a, .tup b => D.beqL a b
  | .fl a, .fl b => D.beqL a b
  | .sq a, .sq b => D.beqL a b
  | .loc a, .loc b => decide (a = b)
  | .obj c ns a, .obj c' ns' b => decide (c = c') && decide (ns = ns') && D.beqL a b
  | _, _ => false
def D.beqL : List D → List D → Bool
  | [], [] => true
  | a :: as, b :: bs => D.beq a b && D.beqL as bs
  | _, _ => false
end
mutual
theorem D.beq_refl : ∀ a : D, D.beq a a = true
  | .non => by simp [D.beq]
  | .bl b => by simp [D.beq]
  | .int i => by simp [D.beq]
  | .str x => by simp [D.beq]
  | .tup xs => by simp [D.beq, D.beqL_refl xs]
  | .fl xs => by simp [D.beq, D.beqL_refl xs]
  | .sq xs => by simp [D.beq, D.beqL_refl xs]
  | .loc k => by simp [D.beq]
  | .obj c ns xs => by simp [D.beq, D.beqL_refl xs]
theorem D.beqL_refl : ∀ a : List D, D.beqL a a = true
  | [] => by simp [D.beqL]
  | a :: as => by simp [D.beqL, D.beq_refl a, D.beqL_refl as]
end
mutual
theorem D.eq_of : ∀ (a b : D), D.beq a b = true → a = b
  | .non, b, h => by cases b <;> simp_all [D.beq]
  | .bl _, b, h => by cases b <;> simp_all [D.beq]
  | .int _, b, h => by cases b <;> simp_all [D.beq]
  | .str _, b, h => by cases b <;> simp_all [D.beq]
  | .tup xs, b, h => by
    cases b <;> simp [D.beq] at h
    rename_i ys
    rw [D.eqL_of xs ys h]
  | .fl xs, b, h => by
    cases b <;> simp [D.beq] at h
    rename_i ys
    rw [D.eqL_of xs ys h]
  | .sq xs, b, h => by
    cases b <;> simp [D.beq] at h
    rename_i ys
    rw [D.eqL_of xs ys h]
  | .loc _, b, h => by cases b <;> simp_all [D.beq]
  | .obj c ns xs, b, h => by
    cases b <;> simp [D.beq] at h
    rename_i c' ns' ys
    rw [D.eqL_of xs ys h.2, h.1.1, h.1.2]
theorem D.eqL_of : ∀ (a b : List D), D.beqL a b = true → a = b
  | [], b, h => by cases b <;> simp_all [D.beqL]
  | a :: as, b, h => by
    cases b with
    | nil => simp [D.beqL] at h
    | cons c cs =>
      simp [D.beqL] at h
      rw [D.eq_of a c h.1, D.eqL_of as cs h.2]
end
instance : DecidableEq D := fun a b => if h : D.beq a b = true then .isTrue (D.eq_of a b h) else .isFalse fun e => h (e ▸ D.beq_refl a)

/-- what is mutable -/
inductive Ob where
  | lst (xs : List D) | dct (kvs : List (Key × D)) | dtu (kvs : List (List Key × D))
  deriving DecidableEq
abbrev Hm := List Ob
abbrev Sl := List (Option D)
structure Exn where
  cls : Str
  fs : List (Str × D)
/-- how an evaluation ends; bad: not served (nothing is said then) -/
inductive Rs (α : Type) where
  | ok (a : α) (h : Hm) | ex (e : Exn) (h : Hm) | bad
def Rs.bind {α β : Type} (r : Rs α) (k : α → Hm → Rs β) : Rs β := match r with
  | .ok a h => k a h
  | .ex e h => .ex e h
  | .bad => .bad
/-- within a comprehension nothing is raised -/
def Rs.bindN {α β : Type} (r : Rs α) (k : α → Hm → Rs β) : Rs β := match r with
  | .ok a h => k a h
  | _ => .bad
def ofO {α : Type} (o : Option α) (h : Hm) : Rs α := match o with
  | some a => .ok a h
  | none => .bad
abbrev Ev := Sl → Hm → Rs D
abbrev Tv := Sl → Hm → Rs Bool
/-- a list that nobody else holds yet -/
abbrev Lv := Sl → Hm → Rs (List D)
abbrev Av := Sl → Hm → Rs (List D)
inductive Out where
  | nx (σ : Sl) (h : Hm) | rt (d : D) (h : Hm) | rl (ds : List D) (h : Hm) | bk (σ : Sl) (h : Hm) | ct (σ : Sl) (h : Hm) | ex (e : Exn) (σ : Sl) (h : Hm) | bad
abbrev Sv := Sl → Hm → Out
abbrev Fn := List D → Hm → Rs D
abbrev FnL := List D → Hm → Rs (List D)

/-! ### reading -/
def lstOf (h : Hm) : D → Option (List D)
  | .fl xs => some xs
  | .sq xs => some xs
  | .loc k => match h[k]? with
    | some (.lst xs) => some xs
    | _ => none
  | _ => none
def seqOf (h : Hm) : D → Option (List D)
  | .tup xs => some xs
  | d => lstOf h d
/-- a list of the program's own making -/
def ownL (h : Hm) : D → Option (List D)
  | .fl xs => some xs
  | .loc k => match h[k]? with
    | some (.lst xs) => some xs
    | _ => none
  | _ => none
def line : Nat := 16777216
def big : Int := 18446744073709551616

/-! ### expressions -/
def eC (d : D) : Ev := fun _ h => .ok d h
def eV (i : Nat) : Ev := fun σ h => match σ[i]? with
  | some (some d) => .ok d h
  | _ => .bad
def e1 (o : Hm → D → Option D) (f : Ev) : Ev := fun σ h => (f σ h).bind fun x h1 => ofO (o h1 x) h1
def e2 (o : Hm → D → D → Option D) (f g : Ev) : Ev := fun σ h => (f σ h).bind fun x h1 => (g σ h1).bind fun y h2 => ofO (o h2 x y) h2
def aN : Av := fun _ h => .ok [] h
def aC (f : Ev) (g : Av) : Av := fun σ h => (f σ h).bind fun x h1 => (g σ h1).bind fun xs h2 => .ok (x :: xs) h2
def eTup (a : Av) : Ev := fun σ h => (a σ h).bind fun xs h1 => if xs.length ≤ line then .ok (.tup xs) h1 else .bad
def lLst (a : Av) : Lv := fun σ h => (a σ h).bind fun xs h1 => if xs.length ≤ line then .ok xs h1 else .bad
/-- a fresh list, held for good as it is -/
def eFrz (f : Lv) : Ev := fun σ h => (f σ h).bind fun xs h1 => .ok (.fl xs) h1
/-- a fresh list that will be changed -/
def eMut (f : Lv) : Ev := fun σ h => (f σ h).bind fun xs h1 => .ok (.loc h1.length) (h1 ++ [.lst xs])

/-! ### operators -/
def oAdd (h : Hm) : D → D → Option D
  | .int i, .int j => some (.int (i + j))
  | .str a, .str b => if a.length + b.length ≤ line then some (.str (a ++ b)) else none
  | .tup xs, .tup ys => if xs.length + ys.length ≤ line then some (.tup (xs ++ ys)) else none
  | x, y => match ownL h x, ownL h y with
    | some xs, some ys => if xs.length + ys.length ≤ line then some (.fl (xs ++ ys)) else none
    | _, _ => none
def oSub (_ : Hm) : D → D → Option D
  | .int i, .int j => some (.int (i - j))
  | _, _ => none
def mulOk (i j : Int) : Bool := (decide (-big < i) && decide (i < big)) || (decide (-big < j) && decide (j < big))
def oMul (_ : Hm) : D → D → Option D
  | .int i, .int j => if mulOk i j then some (.int (i * j)) else none
  | _, _ => none
def oDiv (_ : Hm) : D → D → Option D
  | .int i, .int j => if 0 < j ∧ j < 1073741824 then some (.int (i / j)) else if j < 0 ∧ -1073741824 < j then some (.int (i.fdiv j)) else none
  | _, _ => none
def oMod (_ : Hm) : D → D → Option D
  | .int i, .int j => if 0 < j then some (.int (i % j)) else if j < 0 then some (.int (i.fmod j)) else none
  | _, _ => none
def oPow (_ : Hm) : D → D → Option D
  | .int i, .int j => if 0 ≤ j ∧ j ≤ 1000000 ∧ -big < i ∧ i < big then some (.int (i ^ j.toNat)) else none
  | _, _ => none
def uNeg (_ : Hm) : D → Option D
  | .int i => some (.int (-i))
  | _ => none

/-! ### comparisons -/
mutual
/-- as plain data -/
def py (h : Hm) : D → Option PyData
  | .non => some .none
  | .bl b => some (.bool b)
  | .int i => some (.int i)
  | .str x => some (.str x)
  | .tup xs => (pyL h xs).map .tuple
  | .fl xs => (pyL h xs).map .list
  | .sq xs => (pyL h xs).map .list
  | .loc _ => none
  | .obj _ _ _ => none
def pyL (h : Hm) : List D → Option (List PyData)
  | [] => some []
  | x :: xs => match py h x, pyL h xs with
    | some a, some b => some (a :: b)
    | _, _ => none
end
def eqD (h : Hm) (x y : D) : Option Bool := match x, y with
  | .int i, .int j => some (decide (i = j))
  | .str i, .str j => some (decide (i = j))
  | .bl i, .bl j => some (i == j)
  | x, y => match py h x, py h y with
    | some a, some b => if SeqAt.shaped a && SeqAt.shaped b then some (PyData.eqv a b) else none
    | _, _ => none
def oEq (h : Hm) (x y : D) : Option D := (eqD h x y).map .bl
def oNe (h : Hm) (x y : D) : Option D := (eqD h x y).map fun b => .bl (!b)
def intsOf : List D → Option (List Int)
  | [] => some []
  | .int i :: r => (intsOf r).map (i :: ·)
  | _ => none
def oLt (_ : Hm) : D → D → Option D
  | .int i, .int j => some (.bl (decide (i < j)))
  | .tup xs, .tup ys => match intsOf xs, intsOf ys with
    | some a, some b => some (.bl (HT.lexLt a b))
    | _, _ => none
  | _, _ => none
def oLe (_ : Hm) : D → D → Option D
  | .int i, .int j => some (.bl (decide (i ≤ j)))
  | _, _ => none
def oGt (_ : Hm) : D → D → Option D
  | .int i, .int j => some (.bl (decide (j < i)))
  | _, _ => none
def oGe (_ : Hm) : D → D → Option D
  | .int i, .int j => some (.bl (decide (j ≤ i)))
  | _, _ => none
def isN : D → Bool
  | .non => true
  | _ => false
/-- x is None, True, False -/
def oIs (_ : Hm) : D → D → Option D
  | x, .non => some (.bl (isN x))
  | .bl a, .bl b => some (.bl (decide (a = b)))
  | _, _ => none
def oIsNot (_ : Hm) : D → D → Option D
  | x, .non => some (.bl (!isN x))
  | .bl a, .bl b => some (.bl (!decide (a = b)))
  | _, _ => none
/-- a < b < c: b once -/
def eCh (o o' : Hm → D → D → Option D) (f g k : Ev) : Ev := fun σ h => (f σ h).bind fun x h1 => (g σ h1).bind fun y h2 => match o h2 x y with
  | some (.bl true) => (k σ h2).bind fun z h3 => ofO (o' h3 y z) h3
  | some (.bl false) => .ok (.bl false) h2
  | _ => .bad

/-! ### truth -/
def truth (h : Hm) : D → Option Bool
  | .non => some false
  | .bl b => some b
  | .int i => some (decide (i ≠ 0))
  | .str x => if x.length ≤ line then some (decide (x.length ≠ 0)) else none
  | .tup xs => some (!xs.isEmpty)
  | d => (lstOf h d).map fun xs => !xs.isEmpty
/-- an expression that gives a bool, as a test -/
def tB (f : Ev) : Tv := fun σ h => (f σ h).bind fun x h1 => match x with
  | .bl b => .ok b h1
  | _ => .bad
/-- of any value -/
def tT (f : Ev) : Tv := fun σ h => (f σ h).bind fun x h1 => ofO (truth h1 x) h1
def tAnd (a b : Tv) : Tv := fun σ h => (a σ h).bind fun c h1 => if c = true then b σ h1 else .ok false h1
def tOr (a b : Tv) : Tv := fun σ h => (a σ h).bind fun c h1 => if c = true then .ok true h1 else b σ h1
def tNot (a : Tv) : Tv := fun σ h => (a σ h).bind fun c h1 => .ok (!c) h1
/-- a and b, a or b, not a, as values (all but the last a bool) -/
def eAnd (a b : Ev) : Ev := fun σ h => (a σ h).bind fun x h1 => match x with
  | .bl true => b σ h1
  | .bl false => .ok (.bl false) h1
  | _ => .bad
def eOr (a b : Ev) : Ev := fun σ h => (a σ h).bind fun x h1 => match x with
  | .bl false => b σ h1
  | .bl true => .ok (.bl true) h1
  | _ => .bad
def uNot (_ : Hm) : D → Option D
  | .bl b => some (.bl (!b))
  | _ => none
def eIf (c : Tv) (a b : Ev) : Ev := fun σ h => (c σ h).bind fun t h1 => if t = true then a σ h1 else b σ h1

/-! ### places -/
def ixD (h : Hm) : D → D → Option D
  | .str x, .int i => if x.length ≤ line then (atI x.cps.toList i).map fun c => .str ⟨#[c]⟩ else none
  | d, .int i => (seqOf h d).bind fun xs => atI xs i
  | _, _ => none
def keyOf : D → Option Key
  | .int i => some (.inl i)
  | .str x => some (.inr x)
  | _ => none
def keysOf : List D → Option (List Key)
  | [] => some []
  | x :: xs => match keyOf x, keysOf xs with
    | some k, some ks => some (k :: ks)
    | _, _ => none
/-- a tuple as a key -/
def tkOf : D → Option (List Key)
  | .tup xs => keysOf xs
  | _ => none
def dtuOf (h : Hm) : D → Option (List (List Key × D))
  | .loc k => match h[k]? with
    | some (.dtu kvs) => some kvs
    | _ => none
  | _ => none
def dctOf (h : Hm) : D → Option (List (Key × D))
  | .loc k => match h[k]? with
    | some (.dct kvs) => some kvs
    | _ => none
  | _ => none
def getK {κ : Type} [DecidableEq κ] (kvs : List (κ × D)) (k : κ) : Option D := (kvs.find? fun kv => decide (kv.1 = k)).map (·.2)
def setK {κ : Type} [DecidableEq κ] (kvs : List (κ × D)) (k : κ) (v : D) : List (κ × D) :=
  if (kvs.any fun kv => decide (kv.1 = k)) = true then kvs.map (fun kv => if kv.1 = k then (kv.1, v) else kv) else kvs ++ [(k, v)]
def oDget (h : Hm) (x y : D) : Option D := match dctOf h x, keyOf y with
  | some kvs, some k => getK kvs k
  | _, _ => none
/-- x[y] -/
def oIx (h : Hm) (x y : D) : Option D := match dctOf h x with
  | some _ => oDget h x y
  | none => ixD h x y
/-- isinstance of a built-in class -/
inductive Ty where | int | bool | tuple | list | str | dict
def instD (h : Hm) : Ty → D → Option Bool
  | .int, d => match d with | .obj _ _ _ => none | .int _ => some true | .bl _ => some true | .loc k => (h[k]?).map fun _ => false | _ => some false
  | .bool, d => match d with | .obj _ _ _ => none | .bl _ => some true | .loc k => (h[k]?).map fun _ => false | _ => some false
  | .str, d => match d with | .obj _ _ _ => none | .str _ => some true | .loc k => (h[k]?).map fun _ => false | _ => some false
  | .tuple, d => match d with | .obj _ _ _ => none | .tup _ => some true | .loc k => (h[k]?).map fun _ => false | _ => some false
  | .list, d => match d with | .obj _ _ _ => none | .fl _ => some true | .sq _ => some true | .loc k => (match h[k]? with | some (.lst _) => some true | some (.dct _) => some false | some (.dtu _) => some false | none => none) | _ => some false
  | .dict, d => match d with | .obj _ _ _ => none | .loc k => (match h[k]? with | some (.lst _) => some false | some (.dct _) => some true | some (.dtu _) => some true | none => none) | _ => some false
def eIs (T : Ty) (f : Ev) : Ev := e1 (fun h x => (instD h T x).map .bl) f

/-! ### calls -/
def bLen (h : Hm) : List D → Option D
  | [.str x] => if x.length ≤ line then some (.int x.length) else none
  | [d] => (seqOf h d).map fun xs => .int xs.length
  | _ => none
def bInt (_ : Hm) : List D → Option D
  | [.int i] => some (.int i)
  | [.bl b] => some (.int (if b then 1 else 0))
  | _ => none
def bAbs (_ : Hm) : List D → Option D
  | [.int i] => some (.int (if i < 0 then -i else i))
  | _ => none
def bools : List D → Option (List Bool)
  | [] => some []
  | .bl b :: r => (bools r).map (b :: ·)
  | _ => none
def bAll (h : Hm) : List D → Option D
  | [d] => match (lstOf h d).bind bools with
    | some bs => some (.bl (bs.all id))
    | none => none
  | _ => none
def bAny (h : Hm) : List D → Option D
  | [d] => match (lstOf h d).bind bools with
    | some bs => some (.bl (bs.any id))
    | none => none
  | _ => none
def bSum (h : Hm) : List D → Option D
  | [d] => match (lstOf h d).bind intsOf with
    | some ns => some (.int ns.sum)
    | none => none
  | _ => none
/-- f(..), f a built-in that makes nothing -/
def eB (o : Hm → List D → Option D) (a : Av) : Ev := fun σ h => (a σ h).bind fun xs h1 => ofO (o h1 xs) h1
/-- f(..), f a built-in that makes a list, a tuple -/
def lB (o : Hm → List D → Option (List D)) (a : Av) : Lv := fun σ h => (a σ h).bind fun xs h1 => ofO (o h1 xs) h1
def mList (h : Hm) : List D → Option (List D)
  | [d] => seqOf h d
  | _ => none
def bTuple (h : Hm) : List D → Option D
  | [.tup xs] => some (.tup xs)
  | [d] => (lstOf h d).map .tup
  | _ => none
/-- the same of a list that was just made (all, any, sum, tuple, len, sorted ..) -/
def eBL (o : List D → Option D) (f : Lv) : Ev := fun σ h => (f σ h).bind fun xs h1 => ofO (o xs) h1
def eCall (F : Fn) (a : Av) : Ev := fun σ h => (a σ h).bind fun xs h1 => F xs h1
def lCall (F : FnL) (a : Av) : Lv := fun σ h => (a σ h).bind fun xs h1 => F xs h1

/-! ### targets, loops, comprehensions -/
abbrev Gv := D → Sl → Option Sl
def gN (i : Nat) : Gv := fun d σ => some (σ.set i (some d))
def gTs : List Gv → List D → Sl → Option Sl
  | [], [], σ => some σ
  | g :: gs, d :: ds, σ => (g d σ).bind (gTs gs ds)
  | _, _, _ => none
def gT (gs : List Gv) : Gv := fun d σ => match d with
  | .tup xs => gTs gs xs σ
  | _ => none
def unset (σ : Sl) : List Nat → Sl
  | [] => σ
  | v :: vs => (unset σ vs).set v none
/-- what a for or a comprehension walks: its items -/
abbrev Iv := Sl → Hm → Rs (List D)
def iT (f : Ev) : Iv := fun σ h => (f σ h).bind fun x h1 => match x with
  | .tup xs => .ok xs h1
  | _ => .bad
def iF (f : Ev) : Iv := fun σ h => (f σ h).bind fun x h1 => match x with
  | .fl xs => .ok xs h1
  | .sq xs => .ok xs h1
  | _ => .bad
def small (i : Int) : Bool := decide (i.natAbs.log2 < 62)
def rangeD (lo : Int) (n : Nat) : List D := (List.range n).map fun i => .int (lo + (i : Nat))
def iR1 (a : Av) : Iv := fun σ h => (a σ h).bind fun xs h1 => match xs with
  | [.int j] => if small j then .ok (rangeD 0 j.toNat) h1 else .bad
  | _ => .bad
def iR2 (a : Av) : Iv := fun σ h => (a σ h).bind fun xs h1 => match xs with
  | [.int i, .int j] => if small i && small j then .ok (rangeD i (j - i).toNat) h1 else .bad
  | _ => .bad
def forL (g : Gv) (b : Sv) : List D → Sv
  | [], σ, h => .nx σ h
  | d :: ds, σ, h => match g d σ with
    | none => .bad
    | some σ1 => match b σ1 h with
      | .nx σ2 h2 => forL g b ds σ2 h2
      | .ct σ2 h2 => forL g b ds σ2 h2
      | .bk σ2 h2 => .nx σ2 h2
      | o => o
def compL (g : Gv) (c : Tv) (e : Ev) (σ : Sl) : List D → Hm → Rs (List D)
  | [], h => .ok [] h
  | d :: ds, h => match g d σ with
    | none => .bad
    | some σ1 => (c σ1 h).bindN fun t h1 => if t = true then (e σ1 h1).bindN fun y h2 => (compL g c e σ ds h2).bindN fun ys h3 => .ok (y :: ys) h3 else compL g c e σ ds h1
/-- the same over a list of one's own (or any), that must stand as it was at each step -/
def forG (G : Hm → Bool) (g : Gv) (b : Sv) : List D → Sv
  | [], σ, h => if G h = true then .nx σ h else .bad
  | d :: ds, σ, h => if G h = true then (match g d σ with
    | none => .bad
    | some σ1 => match b σ1 h with
      | .nx σ2 h2 => forG G g b ds σ2 h2
      | .ct σ2 h2 => forG G g b ds σ2 h2
      | .bk σ2 h2 => .nx σ2 h2
      | o => o) else .bad
def compG (G : Hm → Bool) (g : Gv) (c : Tv) (e : Ev) (σ : Sl) : List D → Hm → Rs (List D)
  | [], h => if G h = true then .ok [] h else .bad
  | d :: ds, h => if G h = true then (match g d σ with
    | none => .bad
    | some σ1 => (c σ1 h).bindN fun t h1 => if t = true then (e σ1 h1).bindN fun y h2 => (compG G g c e σ ds h2).bindN fun ys h3 => .ok (y :: ys) h3 else compG G g c e σ ds h1) else .bad
theorem forG_yes {G : Hm → Bool} (hG : ∀ h, G h = true) {g : Gv} {b : Sv} : ∀ (ds : List D) (σ : Sl) (h : Hm), forG G g b ds σ h = forL g b ds σ h
  | [], σ, h => by simp [forG, forL, hG]
  | d :: ds, σ, h => by
    have ih := forG_yes hG (g := g) (b := b) ds
    simp only [forG, forL, hG, if_true]
    cases g d σ with
    | none => rfl
    | some σ1 => cases e : b σ1 h <;> simp [e, ih]
theorem compG_yes {G : Hm → Bool} (hG : ∀ h, G h = true) {g : Gv} {c : Tv} {e : Ev} {σ : Sl} : ∀ (ds : List D) (h : Hm), compG G g c e σ ds h = compL g c e σ ds h
  | [], h => by simp [compG, compL, hG]
  | d :: ds, h => by
    have ih := compG_yes hG (g := g) (c := c) (e := e) (σ := σ) ds
    simp only [compG, compL, hG, if_true, ih]
abbrev Iv2 := Sl → Hm → Rs (Option Nat × List D)
def gd (s : Option Nat) (ds : List D) (h : Hm) : Bool := match s with
  | none => true
  | some k => decide (h[k]? = some (.lst ds))
/-- any sequence, walked -/
def iX (f : Ev) : Iv2 := fun σ h => (f σ h).bind fun x h1 => match x with
  | .tup xs => .ok (none, xs) h1
  | .fl xs => .ok (none, xs) h1
  | .sq xs => .ok (none, xs) h1
  | .loc k => match h1[k]? with
    | some (.lst xs) => .ok (some k, xs) h1
    | _ => .bad
  | _ => .bad
/-- a pure walk as one that may be of one's own -/
def iP (f : Iv) : Iv2 := fun σ h => (f σ h).bind fun xs h1 => .ok (none, xs) h1
def tYes : Tv := fun _ h => .ok true h
/-- [e for g in it if c], its own names at vs -/
def lComp (it : Iv) (g : Gv) (c : Tv) (e : Ev) (vs : List Nat) : Lv := fun σ h => (it σ h).bind fun ds h1 => (compL g c e (unset σ vs) ds h1).bind fun ys h2 => if ys.length ≤ line then .ok ys h2 else .bad

/-! ### statements -/
def sPass : Sv := fun σ h => .nx σ h
def sBk : Sv := fun σ h => .bk σ h
def sCt : Sv := fun σ h => .ct σ h
def sNever : Sv := fun _ _ => .bad
def sSeq (a b : Sv) : Sv := fun σ h => match a σ h with
  | .nx σ1 h1 => b σ1 h1
  | o => o
/-- an evaluation within a statement -/
def Rs.out {α : Type} (r : Rs α) (σ : Sl) (k : α → Hm → Out) : Out := match r with
  | .ok a h => k a h
  | .ex e h => .ex e σ h
  | .bad => .bad
def outO (o : Option Sl) (h : Hm) : Out := match o with
  | some σ => .nx σ h
  | none => .bad
def sIf (c : Tv) (a b : Sv) : Sv := fun σ h => (c σ h).out σ fun t h1 => if t = true then a σ h1 else b σ h1
def sRet (f : Ev) : Sv := fun σ h => (f σ h).out σ fun d h1 => .rt d h1
def sRetL (f : Lv) : Sv := fun σ h => (f σ h).out σ fun d h1 => .rl d h1
def sRetN : Sv := fun _ h => .rt .non h
def sAsg (g : Gv) (f : Ev) : Sv := fun σ h => (f σ h).out σ fun d h1 => outO (g d σ) h1
def sExpr (f : Ev) : Sv := fun σ h => (f σ h).out σ fun _ h1 => .nx σ h1
/-- a, b = x, y -/
def sPar (i j : Nat) (a : Av) : Sv := fun σ h => (a σ h).out σ fun xs h1 => match xs with
  | [x, y] => .nx ((σ.set i (some x)).set j (some y)) h1
  | _ => .bad
/-- o[k] = v, by values -/
def setD (h : Hm) : D → D → D → Option Hm
  | .loc p, k, v => match h[p]? with
    | some (.dct kvs) => match keyOf k with
      | some k => if kvs.length < line then some (h.set p (.dct (setK kvs k v))) else none
      | none => none
    | some (.lst xs) => match k with
      | .int i => (ixN xs.length i).map fun j => h.set p (.lst (xs.set j v))
      | _ => none
    | some (.dtu _) => none
    | none => none
  | _, _, _ => none
/-- o[k] = e -/
def sStore (fo fk fe : Ev) : Sv := fun σ h => (fe σ h).out σ fun v h1 => (fo σ h1).out σ fun o h2 => (fk σ h2).out σ fun k h3 => match setD h3 o k v with
  | some h4 => .nx σ h4
  | none => .bad
/-- o.append(e) -/
def isLst (h : Hm) : D → Bool
  | .loc p => match h[p]? with
    | some (.lst _) => true
    | _ => false
  | _ => false
def appD (h : Hm) : D → D → Option Hm
  | .loc p, v => match h[p]? with
    | some (.lst xs) => if xs.length < line then some (h.set p (.lst (xs ++ [v]))) else none
    | _ => none
  | _, _ => none
def sApp (fo fe : Ev) : Sv := fun σ h => (fo σ h).out σ fun o h1 => if isLst h1 o = true then (fe σ h1).out σ fun v h2 => match appD h2 o v with
  | some h3 => .nx σ h3
  | none => .bad
  else .bad
/-- x op= e, x a name -/
def sAug (i : Nat) (o : Hm → D → D → Option D) (f : Ev) : Sv := fun σ h => match σ[i]? with
  | some (some x) => (f σ h).out σ fun y h1 => match o h1 x y with
    | some z => .nx (σ.set i (some z)) h1
    | none => .bad
  | _ => .bad
def sFor (it : Iv) (g : Gv) (b : Sv) : Sv := fun σ h => (it σ h).out σ fun ds h1 => forL g b ds σ h1
def sForX (it : Iv2) (g : Gv) (b : Sv) : Sv := fun σ h => (it σ h).out σ fun p h1 => forG (gd p.1 p.2) g b p.2 σ h1
def lCompX (it : Iv2) (g : Gv) (c : Tv) (e : Ev) (vs : List Nat) : Lv := fun σ h => (it σ h).bind fun p h1 => (compG (gd p.1 p.2) g c e (unset σ vs) p.2 h1).bind fun ys h2 => if ys.length ≤ line then .ok ys h2 else .bad
def whileL (c : Tv) (b : Sv) : Nat → Sv
  | 0, _, _ => .bad
  | n + 1, σ, h => match c σ h with
    | .ok t h1 => if t = true then (match b σ h1 with
      | .nx σ2 h2 => whileL c b n σ2 h2
      | .ct σ2 h2 => whileL c b n σ2 h2
      | .bk σ2 h2 => .nx σ2 h2
      | o => o) else .nx σ h1
    | .ex e h1 => .ex e σ h1
    | .bad => .bad
def sWhile (c : Tv) (b : Sv) : Sv := fun σ h => whileL c b 1000000000000 σ h
/-- {k: v, ..}, written, that will be changed -/
def mergeD (kvs more : List (Key × D)) : List (Key × D) := more.foldl (fun acc kv => setK acc kv.1 kv.2) kvs
def kvsOf : List D → Option (List (Key × D))
  | [] => some []
  | k :: v :: r => match keyOf k, kvsOf r with
    | some k, some l => some ((k, v) :: l)
    | _, _ => none
  | _ => none
def pN : Av := fun _ h => .ok [] h
def pC (f g : Ev) (r : Av) : Av := fun σ h => (f σ h).bind fun k h1 => (g σ h1).bind fun v h2 => (r σ h2).bind fun l h3 => .ok (k :: v :: l) h3
def eDct (a : Av) : Ev := fun σ h => (a σ h).bind fun l h1 => match kvsOf l with
  | some kvs => if kvs.length ≤ 15 then .ok (.loc h1.length) (h1 ++ [.dct (mergeD [] kvs)]) else .bad
  | none => .bad

/-! ### a def -/
mutual
def D.low (n : Nat) : D → Bool
  | .loc k => decide (k < n)
  | .tup xs => D.lowL n xs
  | .fl xs => D.lowL n xs
  | .sq xs => D.lowL n xs
  | .obj _ _ xs => D.lowL n xs
  | _ => true
def D.lowL (n : Nat) : List D → Bool
  | [] => true
  | d :: ds => D.low n d && D.lowL n ds
end
def Ob.low (n : Nat) : Ob → Bool
  | .lst xs => D.lowL n xs
  | .dct kvs => D.lowL n (kvs.map (·.2))
  | .dtu kvs => D.lowL n (kvs.map (·.2))
/-- the elder objects name no younger one -/
def sealed (n : Nat) (h0 h' : Hm) : Bool := ((h'.take n).zip h0).all fun p => decide (p.1 = p.2) || Ob.low n p.1
/-- a def's end: what it made for itself is forgotten -/
def finP (h0 : Hm) (d : D) (h' : Hm) : Rs D :=
  if h'.length = h0.length then .ok d h' else if D.low h0.length d && sealed h0.length h0 h' && decide (h0.length ≤ h'.length) then .ok d (h'.take h0.length) else .bad
/-- .. it hands back an object of its own -/
def finK (_ : Hm) (d : D) (h' : Hm) : Rs D := .ok d h'
/-- .. it hands back a list of its own that nobody else holds -/
def finL (h0 : Hm) (o : Out) : Rs (List D) := match o with
  | .rl ds h' => if h'.length = h0.length then .ok ds h' else if D.lowL h0.length ds && sealed h0.length h0 h' && decide (h0.length ≤ h'.length) then .ok ds (h'.take h0.length) else .bad
  | .rt (.loc k) h' => match h'[k]? with
    | some (.lst ds) => if D.lowL h0.length ds && sealed h0.length h0 h' && decide (h0.length ≤ k) then .ok ds (h'.take h0.length) else .bad
    | _ => .bad
  | .ex e _ h' => .ex e h'
  | _ => .bad
def startD (n : Nat) (ds : List D) : Sl := ds.map some ++ List.replicate (n - ds.length) none
def fnP (n : Nat) (b : Sv) : Fn := fun ds h => match b (startD n ds) h with
  | .rt d h' => finP h d h'
  | .nx _ h' => finP h .non h'
  | .ex e _ h' => .ex e h'
  | _ => .bad
def fnK (n : Nat) (b : Sv) : Fn := fun ds h => match b (startD n ds) h with
  | .rt d h' => .ok d h'
  | .nx _ h' => .ok .non h'
  | .ex e _ h' => .ex e h'
  | _ => .bad
def fnL (n : Nat) (b : Sv) : FnL := fun ds h => finL h (b (startD n ds) h)
end Y
end

section
set_option Elab.async false
set_option linter.all false
set_option maxRecDepth 100000
set_option maxHeartbeats 2000000
/-! YB: how Y's values stand in HandS's abstract heap; the judgements over Y. -/
namespace Y
open PySem PySem.Spec PyProof.Rows L2

/-- the complete lists of field names of the own classes whose objects never change -/
def fullN (ns : List Str) : Bool := decide (ns ∈ ([["places", "ties", "near"]] : List (List Str)))
/-- what never changes stands on -/
structure Per (H H' : Hp) : Prop where
  tup : ∀ b xs, H b = some (.tup xs) → H' b = some (.tup xs)
  frz : ∀ b o u, H b = some (.frz o u) → H' b = some (.frz o u)
  ins : ∀ b C dx (fs : List (Str × V)), fullN (fs.map (·.1)) = true → H b = some (.ins C dx fs) → H' b = some (.ins C dx fs)
theorem Per.refl (H : Hp) : Per H H := ⟨fun _ _ h => h, fun _ _ _ h => h, fun _ _ _ _ _ h => h⟩
theorem Per.trans {H H1 H2 : Hp} (a : Per H H1) (b : Per H1 H2) : Per H H2 := ⟨fun c xs h => b.tup c xs (a.tup c xs h), fun c o u h => b.frz c o u (a.frz c o u h), fun c C dx fs f h => b.ins c C dx fs f (a.ins c C dx fs f h)⟩
theorem Per.new {H : Hp} {p : Addr} {o : HO} (h : H p = none) : Per H (upd H p o) :=
  ⟨fun b xs e => by rw [upd_ne (ne_of_none e h)]; exact e, fun b u xs e => by rw [upd_ne (ne_of_none e h)]; exact e, fun b C dx fs _ e => by rw [upd_ne (ne_of_none e h)]; exact e⟩
def mutO : HO → Bool
  | .lst _ => true
  | .dK _ => true
  | .dT _ => true
  | .ins _ _ fs => !fullN (fs.map (·.1))
  | _ => false
theorem Per.wr {H : Hp} {p : Addr} {o o' : HO} (h : H p = some o) (m : mutO o = true) : Per H (upd H p o') := by
  constructor
  · intro b xs e
    have : b ≠ p := fun z => by rw [z, h] at e; cases e; cases m
    rw [upd_ne this]; exact e
  · intro b u xs e
    have : b ≠ p := fun z => by rw [z, h] at e; cases e; cases m
    rw [upd_ne this]; exact e
  · intro b C dx fs hf e
    have : b ≠ p := fun z => by rw [z, h] at e; cases e; simp [mutO, hf] at m
    rw [upd_ne this]; exact e

/-- a list that is frozen: known to the object, or the module's own -/
def FzL (K : PySem.W.Frag) (H : Hp) (a : Addr) (xs : List V) : Prop := (∃ o, H a = some (.frz o (.lst xs))) ∨ SqL K (fun _ => none) a xs
theorem FzL.sq {K : PySem.W.Frag} {H : Hp} {a : Addr} {xs : List V} (h : FzL K H a xs) : SqL K H a xs := by
  rcases h with ⟨o, h⟩ | h
  · exact .inl (.inr ⟨o, h⟩)
  · rcases h with (h | ⟨_, h⟩) | h
    · cases h
    · cases h
    · exact .inr h
theorem FzL.per {K : PySem.W.Frag} {H H' : Hp} {a : Addr} {xs : List V} (h : FzL K H a xs) (p : Per H H') : FzL K H' a xs := by
  rcases h with ⟨o, h⟩ | h
  · exact .inl ⟨o, p.frz _ _ _ h⟩
  · exact .inr h
theorem SqT.per {K : PySem.W.Frag} {H H' : Hp} {a : Addr} {xs : List V} (h : SqT K H a xs) (p : Per H H') : SqT K H' a xs := by
  rcases h with (h | ⟨o, h⟩) | h
  · exact .inl (.inl (p.tup _ _ h))
  · exact .inl (.inr ⟨o, p.frz _ _ _ h⟩)
  · exact .inr h

mutual
inductive Rep (K : PySem.W.Frag) (φ : List Addr) (H : Hp) : D → V → Prop
  | non : Rep K φ H .non .non
  | bl (b : Bool) : Rep K φ H (.bl b) (.bl b)
  | int (i : Int) : Rep K φ H (.int i) (.int i)
  | str (x : Str) : Rep K φ H (.str x) (.str x)
  | tup {a : Addr} {ds : List D} {vs : List V} (h : H a = some (.tup vs)) (r : RepL K φ H ds vs) : Rep K φ H (.tup ds) (.ref a)
  | fl {a : Addr} {o : Obj} {ds : List D} {vs : List V} (h : H a = some (.frz o (.lst vs))) (r : RepL K φ H ds vs) : Rep K φ H (.fl ds) (.ref a)
  | sq {a : Addr} {ds : List D} {vs : List V} (h : FzL K H a vs) (r : RepL K φ H ds vs) : Rep K φ H (.sq ds) (.ref a)
  | loc {k : Nat} {a : Addr} (h : φ[k]? = some a) : Rep K φ H (.loc k) (.ref a)
  | obj {a C dx : Addr} {c : Str} {ns : List Str} {fs : List (Str × V)} {ds : List D} {vs : List V} (hc : PySem.W.nsIn K mainGlobals c = some (some (.ref C))) (h : H a = some (.ins C dx fs)) (e1 : fs.map (·.1) = ns) (e2 : fs.map (·.2) = vs) (r : RepL K φ H ds vs) (hf : fullN (fs.map (·.1)) = true) : Rep K φ H (.obj c ns ds) (.ref a)
inductive RepL (K : PySem.W.Frag) (φ : List Addr) (H : Hp) : List D → List V → Prop
  | nil : RepL K φ H [] []
  | cons {d : D} {v : V} {ds : List D} {vs : List V} (h : Rep K φ H d v) (r : RepL K φ H ds vs) : RepL K φ H (d :: ds) (v :: vs)
end
section
variable {K : PySem.W.Frag} {φ φ' : List Addr} {H H' : Hp}
theorem pre_get {k : Nat} {a : Addr} (p : φ <+: φ') (h : φ[k]? = some a) : φ'[k]? = some a := by
  obtain ⟨t, rfl⟩ := p
  rw [List.getElem?_append_left (List.getElem?_eq_some_iff.mp h).1]
  exact h
mutual
theorem Rep.mono (p : φ <+: φ') (q : Per H H') : ∀ (d : D) (v : V), Rep K φ H d v → Rep K φ' H' d v
  | .non, _, h => by cases h; exact .non
  | .bl b, _, h => by cases h; exact .bl b
  | .int b, _, h => by cases h; exact .int b
  | .str b, _, h => by cases h; exact .str b
  | .tup ds, _, h => by
    cases h with
    | tup h r => exact .tup (q.tup _ _ h) (RepL.mono p q ds _ r)
  | .fl ds, _, h => by
    cases h with
    | fl h r => exact .fl (q.frz _ _ _ h) (RepL.mono p q ds _ r)
  | .sq ds, _, h => by
    cases h with
    | sq h r => exact .sq (h.per q) (RepL.mono p q ds _ r)
  | .loc k, _, h => by
    cases h with
    | loc h => exact .loc (pre_get p h)
  | .obj c ns ds, _, h => by
    cases h with
    | obj hc h e1 e2 r hf => exact .obj hc (q.ins _ _ _ _ hf h) e1 e2 (RepL.mono p q ds _ r) hf
theorem RepL.mono (p : φ <+: φ') (q : Per H H') : ∀ (d : List D) (v : List V), RepL K φ H d v → RepL K φ' H' d v
  | [], _, h => by cases h; exact .nil
  | d :: ds, _, h => by
    cases h with
    | cons h r => exact .cons (Rep.mono p q d _ h) (RepL.mono p q ds _ r)
end
mutual
/-- what names no younger place -/
theorem Rep.cut (n : Nat) : ∀ (d : D) (v : V), D.low n d = true → Rep K φ H d v → Rep K (φ.take n) H d v
  | .non, _, _, h => by cases h; exact .non
  | .bl b, _, _, h => by cases h; exact .bl b
  | .int b, _, _, h => by cases h; exact .int b
  | .str b, _, _, h => by cases h; exact .str b
  | .tup ds, _, l, h => by
    cases h with
    | tup h r => exact .tup h (RepL.cut n ds _ (by simpa [D.low] using l) r)
  | .fl ds, _, l, h => by
    cases h with
    | fl h r => exact .fl h (RepL.cut n ds _ (by simpa [D.low] using l) r)
  | .sq ds, _, l, h => by
    cases h with
    | sq h r => exact .sq h (RepL.cut n ds _ (by simpa [D.low] using l) r)
  | .loc k, _, l, h => by
    cases h with
    | loc h =>
      have : k < n := by simpa [D.low] using l
      exact .loc (by rw [List.getElem?_take_of_lt this]; exact h)
  | .obj c ns ds, _, l, h => by
    cases h with
    | obj hc h e1 e2 r hf => exact .obj hc h e1 e2 (RepL.cut n ds _ (by simpa [D.low] using l) r) hf
theorem RepL.cut (n : Nat) : ∀ (d : List D) (v : List V), D.lowL n d = true → RepL K φ H d v → RepL K (φ.take n) H d v
  | [], _, _, h => by cases h; exact .nil
  | d :: ds, _, l, h => by
    simp [D.lowL] at l
    cases h with
    | cons h r => exact .cons (Rep.cut n d _ l.1 h) (RepL.cut n ds _ l.2 r)
end
theorem RepL.length : ∀ {ds : List D} {vs : List V}, RepL K φ H ds vs → ds.length = vs.length
  | [], _, h => by cases h; rfl
  | d :: ds, _, h => by
    cases h with
    | cons _ r => simp [RepL.length r]
theorem RepL.get : ∀ {ds : List D} {vs : List V} {i : Nat} {d : D}, RepL K φ H ds vs → ds[i]? = some d → ∃ v, vs[i]? = some v ∧ Rep K φ H d v
  | [], _, _, _, _, e => by simp at e
  | c :: ds, _, 0, d, h, e => by
    cases h with
    | cons q _ => exact ⟨_, rfl, by simp at e; exact e ▸ q⟩
  | c :: ds, _, i + 1, d, h, e => by
    cases h with
    | cons _ r =>
      obtain ⟨v, h1, h2⟩ := RepL.get (i := i) r (by simpa using e)
      exact ⟨v, by simpa using h1, h2⟩
theorem RepL.get' : ∀ {ds : List D} {vs : List V} {i : Nat} {v : V}, RepL K φ H ds vs → vs[i]? = some v → ∃ d, ds[i]? = some d ∧ Rep K φ H d v
  | _, [], _, _, _, e => by simp at e
  | _, c :: vs, 0, v, h, e => by
    cases h with
    | cons q _ => exact ⟨_, rfl, by simp at e; exact e ▸ q⟩
  | _, c :: vs, i + 1, v, h, e => by
    cases h with
    | cons _ r =>
      obtain ⟨d, h1, h2⟩ := RepL.get' (i := i) r (by simpa using e)
      exact ⟨d, by simpa using h1, h2⟩
theorem RepL.append : ∀ {ds es : List D} {vs us : List V}, RepL K φ H ds vs → RepL K φ H es us → RepL K φ H (ds ++ es) (vs ++ us)
  | [], _, _, _, h, q => by cases h; exact q
  | _ :: _, _, _, _, h, q => by
    cases h with
    | cons h r => exact .cons h (RepL.append r q)
theorem RepL.set {d : D} {v : V} (h : Rep K φ H d v) : ∀ {ds : List D} {vs : List V} (i : Nat), RepL K φ H ds vs → RepL K φ H (ds.set i d) (vs.set i v)
  | [], _, _, r => by cases r; exact .nil
  | _ :: _, _, 0, r => by
    cases r with
    | cons _ r => exact .cons h r
  | _ :: _, _, i + 1, r => by
    cases r with
    | cons q r => exact .cons q (RepL.set h i r)
theorem RepL.nil_iff {ds : List D} {vs : List V} (r : RepL K φ H ds vs) : ds = [] ↔ vs = [] := by
  cases r <;> simp
theorem RepL.empty {ds : List D} {vs : List V} (r : RepL K φ H ds vs) : vs.isEmpty = ds.isEmpty := by
  cases r <;> rfl
theorem RepL.intsOf : ∀ {ds : List D} {vs : List V} {ns : List Int}, RepL K φ H ds vs → intsOf ds = some ns → vs = ns.map V.int
  | [], _, ns, h, e => by
    cases h
    simp [Y.intsOf] at e
    subst e; rfl
  | d :: ds, _, ns, h, e => by
    cases h with
    | cons h r =>
      cases d <;> simp [Y.intsOf] at e
      obtain ⟨a, ha, rfl⟩ := e
      cases h
      rw [RepL.intsOf r ha]; rfl
theorem RepL.bools : ∀ {ds : List D} {vs : List V} {ns : List Bool}, RepL K φ H ds vs → bools ds = some ns → vs = ns.map V.bl
  | [], _, ns, h, e => by
    cases h
    simp [Y.bools] at e
    subst e; rfl
  | d :: ds, _, ns, h, e => by
    cases h with
    | cons h r =>
      cases d <;> simp [Y.bools] at e
      obtain ⟨a, ha, rfl⟩ := e
      cases h
      rw [RepL.bools r ha]; rfl

/-- a dict's pairs -/
abbrev RepK {κ : Type} (K : PySem.W.Frag) (φ : List Addr) (H : Hp) : List (κ × D) → List (κ × V) → Prop := Paired fun p q => p.1 = q.1 ∧ Rep K φ H p.2 q.2
theorem RepK.mono {κ : Type} (p : φ <+: φ') (q : Per H H') {a : List (κ × D)} {b : List (κ × V)} (r : RepK K φ H a b) : RepK K φ' H' a b := Paired.mapP r fun _ _ z => ⟨z.1, Rep.mono p q _ _ z.2⟩
theorem RepK.get {κ : Type} [DecidableEq κ] {a : List (κ × D)} {b : List (κ × V)} (r : RepK K φ H a b) (k : κ) : (getK a k = none ∧ valV b k = none) ∨ ∃ d v, getK a k = some d ∧ valV b k = some v ∧ Rep K φ H d v := by
  induction r with
  | nil => exact .inl ⟨rfl, rfl⟩
  | @cons p q a b h _ ih =>
    by_cases e : p.1 = k
    · exact .inr ⟨p.2, q.2, by simp [getK, List.find?_cons, e], by simp [valV, List.find?_cons, ← h.1, e], h.2⟩
    · have e1 : getK (p :: a) k = getK a k := by simp [getK, List.find?_cons, e]
      have e2 : valV (q :: b) k = valV b k := valV_neg (by rw [← h.1]; exact e)
      rw [e1, e2]
      exact ih
theorem RepK.any {κ : Type} [DecidableEq κ] {a : List (κ × D)} {b : List (κ × V)} (r : RepK K φ H a b) (k : κ) : (a.any fun kv => decide (kv.1 = k)) = (b.any fun kv => decide (kv.1 = k)) := by
  induction r with
  | nil => rfl
  | @cons p q a b h _ ih => simp only [List.any_cons, ih, h.1]
theorem RepK.map {κ : Type} [DecidableEq κ] {a : List (κ × D)} {b : List (κ × V)} (r : RepK K φ H a b) (k : κ) {d : D} {v : V} (h : Rep K φ H d v) :
    RepK K φ H (a.map fun kv => if kv.1 = k then (kv.1, d) else kv) (b.map fun kv => if kv.1 = k then (kv.1, v) else kv) := by
  induction r with
  | nil => exact .nil
  | @cons p q a b z _ ih =>
    refine .cons ?_ ih
    by_cases e : p.1 = k
    · have e' : q.1 = k := by rw [← z.1]; exact e
      simp only [if_pos e, if_pos e']
      exact ⟨z.1, h⟩
    · have e' : ¬ q.1 = k := by rw [← z.1]; exact e
      simp only [if_neg e, if_neg e']
      exact z
theorem Paired.app {α β : Type} {F : α → β → Prop} : ∀ {a : List α} {b : List β} {c : List α} {d : List β}, Paired F a b → Paired F c d → Paired F (a ++ c) (b ++ d)
  | _, _, _, _, .nil, h => h
  | _, _, _, _, .cons r t, h => .cons r (Paired.app t h)
theorem RepK.set {κ : Type} [DecidableEq κ] {a : List (κ × D)} {b : List (κ × V)} (r : RepK K φ H a b) (k : κ) {d : D} {v : V} (h : Rep K φ H d v) : RepK K φ H (setK a k d) (putK b k v) := by
  unfold setK putK
  rw [r.any k]
  split
  · exact r.map k h
  · exact Paired.app r (.cons ⟨rfl, h⟩ .nil)

/-- an object of the list-heap, at its address -/
inductive ObR (K : PySem.W.Frag) (φ : List Addr) (H : Hp) (a : Addr) : Ob → Prop
  | lst {xs : List D} {vs : List V} (h : H a = some (.lst vs)) (r : RepL K φ H xs vs) : ObR K φ H a (.lst xs)
  | dct {xs : List (Key × D)} {vs : List (Key × V)} (h : H a = some (.dK vs)) (r : RepK K φ H xs vs) : ObR K φ H a (.dct xs)
  | dtu {xs : List (List Key × D)} {vs : List (List Key × V)} (h : H a = some (.dT vs)) (r : RepK K φ H xs vs) : ObR K φ H a (.dtu xs)
structure HR (K : PySem.W.Frag) (φ : List Addr) (H : Hp) (h : Hm) : Prop where
  len : φ.length = h.length
  nd : φ.Nodup
  ob : ∀ (k : Nat) a o, φ[k]? = some a → h[k]? = some o → ObR K φ H a o
/-- later: ours may have changed, some have come; all else stands -/
structure Lat (φ : List Addr) (H : Hp) (φ' : List Addr) (H' : Hp) : Prop where
  pre : φ <+: φ'
  per : Per H H'
  keep : ∀ b o, H b = some o → b ∉ φ → H' b = some o
  fresh : ∀ b ∈ φ', b ∈ φ ∨ H b = none
theorem Lat.refl (φ : List Addr) (H : Hp) : Lat φ H φ H := ⟨List.prefix_refl _, Per.refl _, fun _ _ h _ => h, fun _ h => .inl h⟩
theorem Lat.out {b : Addr} {o : HO} (a : Lat φ H φ' H') (h : H b = some o) (n : b ∉ φ) : b ∉ φ' := fun m => by
  rcases a.fresh b m with z | z
  · exact n z
  · rw [h] at z; cases z
theorem Lat.trans {φ1 φ2 : List Addr} {H1 H2 : Hp} (a : Lat φ H φ1 H1) (b : Lat φ1 H1 φ2 H2) : Lat φ H φ2 H2 := by
  refine ⟨a.pre.trans b.pre, a.per.trans b.per, fun c o h n => b.keep c o (a.keep c o h n) (a.out h n), fun c m => ?_⟩
  rcases b.fresh c m with z | z
  · exact a.fresh c z
  · cases e : H c with
    | none => exact .inr rfl
    | some o =>
      by_cases n : c ∈ φ
      · exact .inl n
      · rw [a.keep c o e n] at z; cases z
theorem Lat.new {p : Addr} {v : HO} (e : H p = none) : Lat φ H φ (upd H p v) := ⟨List.prefix_refl _, Per.new e, fun b o h _ => by rw [upd_ne (ne_of_none h e)]; exact h, fun _ h => .inl h⟩
theorem Lat.wr {p : Addr} {u v : HO} (e : H p = some u) (m : mutO u = true) (i : p ∈ φ) : Lat φ H φ (upd H p v) :=
  ⟨List.prefix_refl _, Per.wr e m, fun b o h n => by rw [upd_ne (fun z => by subst z; exact n i)]; exact h, fun _ h => .inl h⟩
theorem ObR.tr {a : Addr} {o : Ob} (x : ObR K φ H a o) (p : φ <+: φ') (q : Per H H') (e : H' a = H a) : ObR K φ' H' a o := by
  cases x with
  | lst h r => exact .lst (e.trans h) (RepL.mono p q _ _ r)
  | dct h r => exact .dct (e.trans h) (r.mono p q)
  | dtu h r => exact .dtu (e.trans h) (r.mono p q)
theorem ObR.some {a : Addr} {o : Ob} (x : ObR K φ H a o) : ∃ u, H a = some u ∧ mutO u = true := by
  cases x with
  | lst h r => exact ⟨_, h, rfl⟩
  | dct h r => exact ⟨_, h, rfl⟩
  | dtu h r => exact ⟨_, h, rfl⟩
theorem HR.at {h : Hm} (x : HR K φ H h) {k : Nat} {a : Addr} (e : φ[k]? = some a) : ∃ o, h[k]? = some o ∧ ObR K φ H a o := by
  have lt : k < h.length := by rw [← x.len]; exact (List.getElem?_eq_some_iff.mp e).1
  exact ⟨h[k], List.getElem?_eq_getElem lt, x.ob k a _ e (List.getElem?_eq_getElem lt)⟩
/-- something new that is not tracked by us -/
theorem HR.new {h : Hm} (x : HR K φ H h) {p : Addr} {o : HO} (n : H p = none) : HR K φ (upd H p o) h := by
  refine ⟨x.len, x.nd, fun k a u e1 e2 => ?_⟩
  obtain ⟨w, hw, _⟩ := (x.ob k a u e1 e2).some
  exact (x.ob k a u e1 e2).tr (List.prefix_refl _) (Per.new n) (upd_ne (ne_of_none hw n))
theorem HR.add {h : Hm} (x : HR K φ H h) {p : Addr} {o : Ob} (n : p ∉ φ) (q : ObR K (φ ++ [p]) H p o) : HR K (φ ++ [p]) H (h ++ [o]) := by
  refine ⟨by simp [x.len], ?_, fun k a u e1 e2 => ?_⟩
  · rw [List.nodup_append]
    refine ⟨x.nd, by simp, fun a ha b hb => ?_⟩
    simp at hb
    subst hb
    exact fun e => n (e ▸ ha)
  · by_cases lt : k < h.length
    · rw [List.getElem?_append_left (by rw [x.len]; exact lt)] at e1
      rw [List.getElem?_append_left lt] at e2
      exact (x.ob k a u e1 e2).tr (List.prefix_append _ _) (Per.refl _) rfl
    · have hk : k = h.length := by
        have := (List.getElem?_eq_some_iff.mp e2).1
        simp at this
        omega
      subst hk
      rw [List.getElem?_append_right (by rw [x.len]; exact Nat.le_refl _)] at e1
      rw [List.getElem?_append_right (Nat.le_refl _)] at e2
      simp [x.len] at e1 e2
      subst e1; subst e2
      exact q
theorem HR.notin {h : Hm} (x : HR K φ H h) {p : Addr} (n : H p = none) : p ∉ φ := fun m => by
  obtain ⟨k, e⟩ := List.getElem?_of_mem m
  obtain ⟨o, _, q⟩ := x.at e
  obtain ⟨u, hu, _⟩ := q.some
  rw [n] at hu; cases hu
/-- one of ours is written -/
theorem HR.wr {h : Hm} (x : HR K φ H h) {k : Nat} {p : Addr} {o : Ob} {u : HO} (e : φ[k]? = some p) (q : ObR K φ (upd H p u) p o) : HR K φ (upd H p u) (h.set k o) := by
  obtain ⟨w, e2, hw⟩ := x.at e
  obtain ⟨v, hv, m⟩ := hw.some
  refine ⟨by simp [x.len], x.nd, fun j a y f1 f2 => ?_⟩
  by_cases hj : j = k
  · subst hj
    rw [e] at f1; cases f1
    rw [List.getElem?_set_self (by rw [← x.len]; exact (List.getElem?_eq_some_iff.mp e).1)] at f2
    cases f2
    exact q
  · rw [List.getElem?_set_ne (Ne.symm hj)] at f2
    have ne : a ≠ p := fun z => by
      subst z
      obtain ⟨l1, g1⟩ := List.getElem?_eq_some_iff.mp e
      obtain ⟨l2, g2⟩ := List.getElem?_eq_some_iff.mp f1
      exact hj ((List.getElem_inj x.nd).mp (g2.trans g1.symm))
    exact (x.ob j a y f1 f2).tr (List.prefix_refl _) (Per.wr hv m) (upd_ne ne)
theorem low_mem {κ : Type} {n : Nat} {kvs : List (κ × D)} (h : D.lowL n (kvs.map (·.2)) = true) : ∀ p ∈ kvs, D.low n p.2 = true := by
  induction kvs with
  | nil => intro p hp; cases hp
  | cons q r ih =>
    simp [D.lowL] at h
    intro p hp
    rcases List.mem_cons.mp hp with rfl | hp
    · exact h.1
    · exact ih h.2 p hp
theorem RepK.cut {κ : Type} {n : Nat} {a : List (κ × D)} {b : List (κ × V)} (r : RepK K φ H a b) (l : ∀ p ∈ a, D.low n p.2 = true) : RepK K (φ.take n) H a b := by
  induction r with
  | nil => exact .nil
  | @cons p q a b z _ ih => exact .cons ⟨z.1, Rep.cut n _ _ (l p List.mem_cons_self) z.2⟩ (ih fun p hp => l p (List.mem_cons_of_mem _ hp))
theorem ObR.cut {n : Nat} {a : Addr} {o : Ob} (x : ObR K φ H a o) (l : Ob.low n o = true) : ObR K (φ.take n) H a o := by
  cases x with
  | lst h r => exact .lst h (RepL.cut n _ _ l r)
  | dct h r => exact .dct h (r.cut (low_mem l))
  | dtu h r => exact .dtu h (r.cut (low_mem l))
end
end Y
end

section
set_option Elab.async false
set_option linter.all false
set_option maxRecDepth 100000
set_option maxHeartbeats 2000000
/-! YC: the judgements over Y, and the rules of expressions. -/
namespace Y
open PySem PySem.Spec PyProof.Rows L2

/-- fields of an exception -/
abbrev RepF (K : PySem.W.Frag) (φ : List Addr) (H : Hp) : List (Str × D) → List (Str × V) → Prop := Paired fun p q => p.1 = q.1 ∧ Rep K φ H p.2 q.2
/-- an exception: its class, its dict -/
def ER (K : PySem.W.Frag) (cl : Nat → Addr) (φ : List Addr) (H : Hp) (e : Exn) (c : Value) (d : Option Addr) : Prop :=
  (∃ C, c = .ref C ∧ PySem.W.nsIn K mainGlobals e.cls = some (some (.ref C))) ∧ ((e.fs = [] ∧ d = none) ∨ ∃ dd fs, d = some dd ∧ H dd = some (.xd fs) ∧ RepF K φ H e.fs fs)
structure SR (K : PySem.W.Frag) (φ : List Addr) (H : Hp) (st : Sl) (σ : L2.St) : Prop where
  len : st.length = σ.length
  get : ∀ (i : Nat) (d : D), st[i]? = some (some d) → ∃ v, σ[i]? = some (some v) ∧ Rep K φ H d v
section
variable {K : PySem.W.Frag} {cl : Nat → Addr} {φ φ' : List Addr} {H H' : Hp} {st : Sl} {σ : L2.St}
theorem SR.mono (x : SR K φ H st σ) (l : Lat φ H φ' H') : SR K φ' H' st σ :=
  ⟨x.len, fun i d e => let ⟨v, h1, h2⟩ := x.get i d e; ⟨v, h1, Rep.mono l.pre l.per _ _ h2⟩⟩
theorem SR.set (x : SR K φ H st σ) {d : D} {v : V} (i : Nat) (h : Rep K φ H d v) : SR K φ H (st.set i (some d)) (σ.set i (some v)) := by
  refine ⟨by simp [x.len], fun j c e => ?_⟩
  by_cases hj : j = i
  · subst hj
    have lt : j < st.length := by
      have := (List.getElem?_eq_some_iff.mp e).1
      simpa using this
    rw [List.getElem?_set_self lt] at e
    cases e
    exact ⟨v, List.getElem?_set_self (by rw [← x.len]; exact lt), h⟩
  · rw [List.getElem?_set_ne (Ne.symm hj)] at e
    rw [List.getElem?_set_ne (Ne.symm hj)]
    exact x.get j c e
theorem SR.off (x : SR K φ H st σ) (i : Nat) : SR K φ H (st.set i none) (σ.set i none) := by
  refine ⟨by simp [x.len], fun j c e => ?_⟩
  by_cases hj : j = i
  · subst hj
    have lt : j < st.length := by
      have := (List.getElem?_eq_some_iff.mp e).1
      simpa using this
    rw [List.getElem?_set_self lt] at e
    cases e
  · rw [List.getElem?_set_ne (Ne.symm hj)] at e
    rw [List.getElem?_set_ne (Ne.symm hj)]
    exact x.get j c e
theorem SR.unset (x : SR K φ H st σ) : ∀ vs : List Nat, SR K φ H (unset st vs) (wipe σ vs)
  | [] => x
  | v :: vs => (x.unset vs).off v

abbrev WE' := Value → Option Addr → Hp → Prop
/-- how a value stands: the heap at the start, ours, the heap -/
abbrev RT (α β : Type) := Hp → List Addr → Hp → α → β → Prop
/-- what stands so, from a later start, stands so from the elder one -/
class Back {α β : Type} (Rel : RT α β) : Prop where
  back : ∀ {H φ H1 φ1 φ' H' a b}, Lat φ H φ1 H1 → Lat φ1 H1 φ' H' → Rel H1 φ' H' a b → Rel H φ' H' a b
def RR (K : PySem.W.Frag) : RT D V := fun _ => Rep K
def RL (K : PySem.W.Frag) : RT (List D) (List V) := fun _ => RepL K
def RBool : RT Bool Bool := fun _ _ _ a b => a = b
/-- a list that was just made and that nobody holds -/
def Fresh (K : PySem.W.Frag) : RT (List D) V := fun H0 φ H ds v => ∃ p vs, v = .ref p ∧ H0 p = none ∧ p ∉ φ ∧ H p = some (.lst vs) ∧ RepL K φ H ds vs
instance : Back (RR K) := ⟨fun _ _ h => h⟩
instance : Back (RL K) := ⟨fun _ _ h => h⟩
instance : Back RBool := ⟨fun _ _ h => h⟩
theorem Lat.gone {p : Addr} (a : Lat φ H φ' H') (n : p ∉ φ') (h : H' p = none) : H p = none := by
  cases e : H p with
  | none => rfl
  | some o =>
    have m : p ∉ φ := fun m => n (let ⟨k, q⟩ := List.getElem?_of_mem m; List.mem_of_getElem? (pre_get a.pre q))
    rw [a.keep p o e m] at h; cases h
theorem pre_notin {p : Addr} (q : φ <+: φ') (n : p ∉ φ') : p ∉ φ := fun m => n (let ⟨_, z⟩ := List.getElem?_of_mem m; List.mem_of_getElem? (pre_get q z))
instance : Back (Fresh K) := ⟨fun l1 l2 ⟨p, vs, e, h0, n, h, r⟩ => ⟨p, vs, e, l1.gone (pre_notin l2.pre n) h0, n, h, r⟩⟩
def Post {α β : Type} (K : PySem.W.Frag) (cl : Nat → Addr) (φ : List Addr) (H : Hp) (Rel : RT α β) (r : Rs α) (Q : β → Hp → Prop) (We : WE') : Prop := match r with
  | .ok a h' => ∀ φ' H' b, Lat φ H φ' H' → HR K φ' H' h' → Rel H φ' H' a b → Q b H'
  | .ex e h' => ∀ φ' H' c d, Lat φ H φ' H' → HR K φ' H' h' → ER K cl φ' H' e c d → We c d H'
  | .bad => False
theorem Post.lat {α β : Type} {Rel : RT α β} [Back Rel] {r : Rs α} {Q : β → Hp → Prop} {We : WE'} (p : Post K cl φ H Rel r Q We) (l : Lat φ H φ' H') : Post K cl φ' H' Rel r Q We := by
  cases r with
  | ok a h => exact fun φ2 H2 b l2 x q => p φ2 H2 b (l.trans l2) x (Back.back l l2 q)
  | ex e h => exact fun φ2 H2 c d l2 => p φ2 H2 c d (l.trans l2)
  | bad => exact p
theorem Post.seq {α α' β β' : Type} {R1 : RT α β} {R2 : RT α' β'} [Back R2] {r : Rs α} {k : α → Hm → Rs α'} {Q1 : β → Hp → Prop} {Q2 : β' → Hp → Prop} {We : WE'} (p : Post K cl φ H R2 (r.bind k) Q2 We)
    (h : ∀ a h1 φ1 H1 b, Lat φ H φ1 H1 → HR K φ1 H1 h1 → R1 H φ1 H1 a b → Post K cl φ1 H1 R2 (k a h1) Q2 We → Q1 b H1) : Post K cl φ H R1 r Q1 We := by
  cases r with
  | ok a h0 => exact fun φ1 H1 b l x r => h a h0 φ1 H1 b l x r (Post.lat (show Post K cl φ H R2 (k a h0) Q2 We from p) l)
  | ex e h0 => exact p
  | bad => exact p
def tG {α β : Type} (K : PySem.W.Frag) (cl : Nat → Addr) (W : WX) (Rel : RT α β) (f : Sl → Hm → Rs α) : L2.St → Hp → (β → Hp → Prop) → Prop := fun σ H Q =>
  ∃ φ st h, SR K φ H st σ ∧ HR K φ H h ∧ Post K cl φ H Rel (f st h) Q fun c d H' => W c d σ H'
def PostS (K : PySem.W.Frag) (cl : Nat → Addr) (φ : List Addr) (H : Hp) (o : Out) (D : Ends) (W : WX) : Prop := match o with
  | .nx σ h' => ∀ φ' H' τ, Lat φ H φ' H' → HR K φ' H' h' → SR K φ' H' σ τ → D.nx τ H'
  | .bk σ h' => ∀ φ' H' τ, Lat φ H φ' H' → HR K φ' H' h' → SR K φ' H' σ τ → D.bk τ H'
  | .ct σ h' => ∀ φ' H' τ, Lat φ H φ' H' → HR K φ' H' h' → SR K φ' H' σ τ → D.ct τ H'
  | .rt d h' => ∀ φ' H' v, Lat φ H φ' H' → HR K φ' H' h' → Rep K φ' H' d v → D.rt v H'
  | .rl d h' => ∀ φ' H' v, Lat φ H φ' H' → HR K φ' H' h' → Fresh K H φ' H' d v → D.rt v H'
  | .ex e σ h' => ∀ φ' H' c d τ, Lat φ H φ' H' → HR K φ' H' h' → SR K φ' H' σ τ → ER K cl φ' H' e c d → W c d τ H'
  | .bad => False
theorem PostS.lat {o : Out} {D : Ends} {W : WX} (p : PostS K cl φ H o D W) (l : Lat φ H φ' H') : PostS K cl φ' H' o D W := by
  cases o with
  | nx _ _ => exact fun φ2 H2 b l2 => p φ2 H2 b (l.trans l2)
  | bk _ _ => exact fun φ2 H2 b l2 => p φ2 H2 b (l.trans l2)
  | ct _ _ => exact fun φ2 H2 b l2 => p φ2 H2 b (l.trans l2)
  | rt _ _ => exact fun φ2 H2 b l2 => p φ2 H2 b (l.trans l2)
  | rl _ _ => exact fun φ2 H2 b l2 x q => p φ2 H2 b (l.trans l2) x (Back.back l l2 q)
  | ex _ _ _ => exact fun φ2 H2 c d τ l2 => p φ2 H2 c d τ (l.trans l2)
  | bad => exact p
def tSt (K : PySem.W.Frag) (cl : Nat → Addr) (W : WX) (f : Sv) : TS := fun D σ H => ∃ φ st h, SR K φ H st σ ∧ HR K φ H h ∧ PostS K cl φ H (f st h) D W
end

abbrev SE (X : Cx) (cl : Nat → Addr) (W : WX) (e : Expr) (f : Ev) : Prop := PE X e (tG X.K cl W (RR X.K) f)
abbrev ST (X : Cx) (cl : Nat → Addr) (W : WX) (e : Expr) (f : Tv) : Prop := PT X e (tG X.K cl W RBool f)
abbrev SW (X : Cx) (cl : Nat → Addr) (W : WX) (e : Expr) (f : Tv) : Prop := PW X e (tG X.K cl W RBool f)
abbrev SA (X : Cx) (cl : Nat → Addr) (W : WX) (es : List Expr) (f : Av) : Prop := PA X es (tG X.K cl W (RL X.K) f)
abbrev SL (X : Cx) (cl : Nat → Addr) (W : WX) (e : Expr) (f : Lv) : Prop := PE X e (tG X.K cl W (Fresh X.K) f)
abbrev SS (X : Cx) (cl : Nat → Addr) (W : WX) (s : Stmt) (f : Sv) : Prop := PS X s (tSt X.K cl W f)
abbrev SSs (X : Cx) (cl : Nat → Addr) (W : WX) (s : List Stmt) (f : Sv) : Prop := PSs X s (tSt X.K cl W f)

section
variable {X : Cx} {cl : Nat → Addr} {W : WX} {e a b : Expr} {es : List Expr} {f g : Ev} {pos : Pos}
theorem PE.of {t t' : TE} (h : PE X e t) (i : ∀ σ H Q, t' σ H Q → t σ H Q) : PE X e t' := ⟨fun pins s σ H Q I q => h.run pins s σ H Q I (i σ H Q q)⟩
theorem PT.of {t t' : TT} (h : PT X e t) (i : ∀ σ H Q, t' σ H Q → t σ H Q) : PT X e t' := ⟨fun pins s σ H Q I q => h.run pins s σ H Q I (i σ H Q q)⟩
theorem PW.of {t t' : TT} (h : PW X e t) (i : ∀ σ H Q, t' σ H Q → t σ H Q) : PW X e t' := ⟨fun wh pins s σ H Q I q => h.run wh pins s σ H Q I (i σ H Q q)⟩
theorem PA.of {t t' : TA} (h : PA X es t) (i : ∀ σ H Q, t' σ H Q → t σ H Q) : PA X es t' := ⟨fun pos pins s σ H Q I q => h.run pos pins s σ H Q I (i σ H Q q)⟩
theorem PS.of {st : Stmt} {t t' : TS} (h : PS X st t) (i : ∀ D σ H, t' D σ H → t D σ H) : PS X st t' := ⟨fun pins s σ H D I q => h.run pins s σ H D I (i D σ H q)⟩
theorem PSs.of {st : List Stmt} {t t' : TS} (h : PSs X st t) (i : ∀ D σ H, t' D σ H → t D σ H) : PSs X st t' := ⟨fun pins s σ H D I q => h.run pins s σ H D I (i D σ H q)⟩
/-- two in a row, then a value without more -/
theorem seq2 {α β : Type} {σ : L2.St} {H : Hp} {Q : β → Hp → Prop} {Rel : RT α β} [Back Rel] {k : D → D → Hm → Rs α} {R : V → V → Hp → Prop}
    (p : tG X.K cl W Rel (fun σ h => (f σ h).bind fun x h1 => (g σ h1).bind fun y h2 => k x y h2) σ H Q)
    (h : ∀ φ H2 h2 x y v u, HR X.K φ H2 h2 → Rep X.K φ H2 x v → Rep X.K φ H2 y u → Post X.K cl φ H2 Rel (k x y h2) Q (fun c d H' => W c d σ H') → R v u H2) :
    tG X.K cl W (RR X.K) f σ H fun v H1 => tG X.K cl W (RR X.K) g σ H1 fun u H2 => R v u H2 := by
  obtain ⟨φ, st, h0, S, R0, P⟩ := p
  exact ⟨φ, st, h0, S, R0, P.seq fun x h1 φ1 H1 v l1 r1 q1 P1 => ⟨φ1, st, h1, S.mono l1, r1, P1.seq fun y h2 φ2 H2 u l2 r2 q2 P2 => h φ2 H2 h2 x y v u r2 (Rep.mono l2.pre l2.per _ _ q1) q2 P2⟩⟩
theorem seq1 {α β γ δ : Type} {R1 : RT γ δ} {f : Sl → Hm → Rs γ} {σ : L2.St} {H : Hp} {Q : β → Hp → Prop} {Rel : RT α β} [Back Rel] {k : γ → Hm → Rs α} {R : δ → Hp → Prop}
    (p : tG X.K cl W Rel (fun σ h => (f σ h).bind fun x h1 => k x h1) σ H Q)
    (h : ∀ φ H1 h1 x v, HR X.K φ H1 h1 → R1 H φ H1 x v → Post X.K cl φ H1 Rel (k x h1) Q (fun c d H' => W c d σ H') → R v H1) :
    tG X.K cl W R1 f σ H R := by
  obtain ⟨φ, st, h0, S, R0, P⟩ := p
  exact ⟨φ, st, h0, S, R0, P.seq fun x h1 φ1 H1 v l1 r1 q1 P1 => h φ1 H1 h1 x v r1 q1 P1⟩
/-- .. where the start matters -/
theorem seq0 {α β γ δ : Type} {R1 : RT γ δ} {f : Sl → Hm → Rs γ} {σ : L2.St} {H : Hp} {Q : β → Hp → Prop} {Rel : RT α β} [Back Rel] {k : γ → Hm → Rs α} {R : δ → Hp → Prop}
    (p : tG X.K cl W Rel (fun σ h => (f σ h).bind fun x h1 => k x h1) σ H Q)
    (h : ∀ φ0 φ H1 h1 x v, Lat φ0 H φ H1 → HR X.K φ H1 h1 → R1 H φ H1 x v → (∀ a h2, k x h1 = .ok a h2 → ∀ φ' H' b, Lat φ0 H φ' H' → HR X.K φ' H' h2 → Rel H φ' H' a b → Q b H') → (∃ a h2, k x h1 = .ok a h2) → R v H1) (hk : ∀ x h1, (∃ a h2, k x h1 = .ok a h2) ∨ k x h1 = .bad) :
    tG X.K cl W R1 f σ H R := by
  obtain ⟨φ, st, h0, S, R0, P⟩ := p
  refine ⟨φ, st, h0, S, R0, ?_⟩
  cases e : f st h0 with
  | bad => simp only [e, Rs.bind] at P; exact P
  | ex _ _ => simp only [e, Rs.bind] at P; exact P
  | ok x h1 =>
    simp only [e, Rs.bind] at P
    intro φ1 H1 v l1 r1 q1
    rcases hk x h1 with ⟨a, h2, e2⟩ | e2
    · refine h φ φ1 H1 h1 x v l1 r1 q1 (fun a' h2' e' => ?_) ⟨a, h2, e2⟩
      rw [e'] at P
      exact P
    · rw [e2] at P; exact P.elim
/-- what a Post of a given value says -/
theorem Post.val {α β : Type} {K : PySem.W.Frag} {φ : List Addr} {H : Hp} {Rel : RT α β} {a : α} {h : Hm} {Q : β → Hp → Prop} {We : WE'} (p : Post K cl φ H Rel (.ok a h) Q We) (r : HR K φ H h) {b : β} (q : Rel H φ H a b) : Q b H :=
  p φ H b (Lat.refl _ _) r q

/-! ### constants, names -/
theorem s_c {d : D} {v : V} (h : PE X e (L2.tC v)) (r : ∀ φ H, Rep X.K φ H d v) : SE X cl W e (eC d) := PE.of h fun σ H Q ⟨φ, st, h0, S, R, P⟩ => P.val R (r φ H)
theorem s_int {i j} : SE X cl W (.Constant (.int i) j pos) (eC (.int i)) := s_c pe_int fun _ _ => .int i
theorem s_str {x j} : SE X cl W (.Constant (.str x) j pos) (eC (.str x)) := s_c pe_str fun _ _ => .str x
theorem s_bl {x j} : SE X cl W (.Constant (.bool x) j pos) (eC (.bl x)) := s_c pe_bl fun _ _ => .bl x
theorem s_non {j} : SE X cl W (.Constant .none j pos) (eC .non) := s_c pe_non fun _ _ => .non
theorem s_v (i : Nat) {x : Str} (hN : X.N[i]? = some x := by rfl) (hv : Vis X.env.scope x := by first | exact Or.inl rfl | exact Or.inr (Or.inl rfl) | exact Or.inr (Or.inr rfl)) (hd : (x == ("__debug__" : Str)) = false := by decide)
    (hcd : (x == ("__classdict__" : Str)) = false := by decide) : SE X cl W (.Name x pos) (eV i) := PE.of (pe_var hN hv hd hcd) fun σ H Q ⟨φ, st, h0, S, R, P⟩ => by
  unfold eV at P
  cases e : st[i]? with
  | none => rw [e] at P; exact P.elim
  | some o =>
    cases o with
    | none => rw [e] at P; exact P.elim
    | some d =>
      rw [e] at P
      obtain ⟨v, h1, h2⟩ := S.get i d e
      exact ⟨v, h1, P.val R h2⟩

/-! ### operators, by values -/
/-- an operator's meaning -/
def OpY (X : Cx) (F : Value → Value → Sem Value) (o : Hm → D → D → Option D) : Prop := ∀ (cl : Nat → Addr) (We : WE') (Q : VK) (φ : List Addr) (H : Hp) (h : Hm) (x y : D) (v u : V),
  ∀ (pins : List (Addr × Obj)) (s : Shared) (σ : L2.St) (vv uu : Value), Inv X pins σ H s → RelV v vv → RelV u uu →
  HR X.K φ H h → Rep X.K φ H x v → Rep X.K φ H y u → Post X.K cl φ H (RR X.K) (ofO (o h x y) h) Q We → wpAny (model X.prog X.w) X.A (F vv uu) (EP X pins σ Q) X.xe s
/-- from a rule of HandS for one shape -/
theorem opY_of {F : Value → Value → Sem Value} {o : Hm → D → D → Option D}
    (h : ∀ (cl : Nat → Addr) (We : WE') (Q : VK) (φ : List Addr) (H : Hp) (h : Hm) (x y : D) (v u : V), HR X.K φ H h → Rep X.K φ H x v → Rep X.K φ H y u → Post X.K cl φ H (RR X.K) (ofO (o h x y) h) Q We → ∃ r, OpR X F r ∧ r v u H Q) : OpY X F o :=
  fun cl We Q φ H h0 x y v u pins s σ vv uu I rv ru R rx ry P => by
    obtain ⟨r, hr, q⟩ := h cl We Q φ H h0 x y v u R rx ry P
    exact hr pins s σ H v u vv uu Q I rv ru q
def tO2 (X : Cx) (cl : Nat → Addr) (W : WX) (o : Hm → D → D → Option D) (f g : Ev) : TE := tG X.K cl W (RR X.K) (e2 o f g)
theorem s_op {op : Operator} {o : Hm → D → D → Option D} (ho : OpY X (binaryOp op) o) (ha : SE X cl W a f) (hb : SE X cl W b g) : SE X cl W (.BinOp a op b pos) (e2 o f g) := by
  refine ⟨fun pins s σ H Q I p => ?_⟩
  refine wpAny_BinOp (bin ha hb I (seq2 (R := fun v u H2 => ∃ φ h x y, HR X.K φ H2 h ∧ Rep X.K φ H2 x v ∧ Rep X.K φ H2 y u ∧ Post X.K cl φ H2 (RR X.K) (ofO (o h x y) h) Q fun c d H' => W c d σ H') p
    fun φ H2 h2 x y v u r q1 q2 P2 => ⟨φ, h2, x, y, r, q1, q2, P2⟩) fun v u s2 x y H2 I2 rx ry q => ?_)
  obtain ⟨φ, h, dx, dy, r, q1, q2, P⟩ := q
  exact ho cl _ Q φ H2 h dx dy x y pins s2 σ v u I2 rx ry r q1 q2 P
theorem s_cmp {op : CmpOp} {o : Hm → D → D → Option D} (ho : OpY X (compareOp op) o) (ha : SE X cl W a f) (hb : SE X cl W b g) (hm : behindInMarks op b = false) : SE X cl W (.Compare a [op] [b] pos) (e2 o f g) := by
  refine ⟨fun pins s σ H Q I p => ?_⟩
  refine wpAny_Compare1 (bin ha hb I (seq2 (R := fun v u H2 => ∃ φ h x y, HR X.K φ H2 h ∧ Rep X.K φ H2 x v ∧ Rep X.K φ H2 y u ∧ Post X.K cl φ H2 (RR X.K) (ofO (o h x y) h) Q fun c d H' => W c d σ H') p
    fun φ H2 h2 x y v u r q1 q2 P2 => ⟨φ, h2, x, y, r, q1, q2, P2⟩) fun v u s2 x y H2 I2 rx ry q => ?_) hm
  obtain ⟨φ, h, dx, dy, r, q1, q2, P⟩ := q
  exact ho cl _ Q φ H2 h dx dy x y pins s2 σ v u I2 rx ry r q1 q2 P
/-- a test whose expression has a value that is a bool: a comparison -/
theorem t_cmp {op : CmpOp} {o : Hm → D → D → Option D} (ho : OpY X (compareOp op) o) (ha : SE X cl W a f) (hb : SE X cl W b g) (hm : behindInMarks op b = false) : ST X cl W (.Compare a [op] [b] pos) (tB (e2 o f g)) := by
  refine ⟨fun pins s σ H Q I p => ?_⟩
  have p' : tG X.K cl W (RR X.K) (e2 o f g) σ H fun x H1 => ∃ k, x = .bl k ∧ Q k H1 := by
    refine seq1 (k := fun x h1 => match x with | .bl b => .ok b h1 | _ => .bad) p fun φ H1 h1 x v r q P => ?_
    cases q with
    | bl b => exact ⟨b, rfl, P.val r rfl⟩
    | _ => exact P.elim
  refine wpAny_isTrue_Compare1 (bin ha hb I (seq2 (R := fun v u H2 => ∃ φ h x y, HR X.K φ H2 h ∧ Rep X.K φ H2 x v ∧ Rep X.K φ H2 y u ∧ Post X.K cl φ H2 (RR X.K) (ofO (o h x y) h) (fun x H1 => ∃ k, x = .bl k ∧ Q k H1) fun c d H' => W c d σ H') p'
    fun φ H2 h2 x y v u r q1 q2 P2 => ⟨φ, h2, x, y, r, q1, q2, P2⟩) fun v u s2 x y H2 I2 rx ry q => ?_) hm
  obtain ⟨φ, h, dx, dy, r, q1, q2, P⟩ := q
  refine thn (ho cl _ _ φ H2 h dx dy x y pins s2 σ v u I2 rx ry r q1 q2 P) fun w s3 ⟨y3, H3, I3, r3, k, e3, q3⟩ => ?_
  subst e3
  obtain rfl : w = Value.bool k := r3
  exact wpAny_truthy_bool ⟨H3, I3, q3⟩
theorem t_val (h : SE X cl W e f) (he : ∀ whole, isTrue e X.env whole = (do let v ← whole; standAt e.pos; holding [v] (truthy v)) := by intro _; rfl) : ST X cl W e (tB f) := by
  refine PT.of (pt_val h he) fun σ H Q p => ?_
  refine seq1 (k := fun x h1 => match x with | .bl b => .ok b h1 | _ => .bad) p fun φ H1 h1 x v r q P => ?_
  cases q with
  | bl b => exact ⟨b, rfl, P.val r rfl⟩
  | _ => exact P.elim
end
end Y
end

section
set_option Elab.async false
set_option linter.all false
set_option maxRecDepth 100000
set_option maxHeartbeats 2000000
/-! YD: operators, places, built-in calls. -/
namespace Y
open PySem PySem.Spec PyProof.Rows L2

/-- what a rule of Y wants of the context -/
structure Cs (k : Nat) (X : Cx) : Prop where
  room : Room k X.A
  gd : X.A.guards = some []
  calm : X.calm = true
  nd : X.N.Nodup
theorem Cs.mono {j k : Nat} {X : Cx} (c : Cs k X) (h : j ≤ k) : Cs j X := ⟨c.room.mono h, c.gd, c.calm, c.nd⟩
theorem Cs.hu {k : Nat} {X : Cx} (c : Cs k X) : X.A.units + 1 < cLine := hu_of c.room

/-! ### a list is frozen: the ghost step -/
section
variable {X : Cx} {pins : List (Addr × Obj)} {σ : L2.St} {H : Hp} {s : Shared} {p : Addr} {vs : List V}
theorem inv_frz (I : L2.Inv X pins σ H s) (h : H p = some (.lst vs)) : ∃ o, L2.Inv X pins σ (upd H p (.frz o (.lst vs))) s := by
  have okp := I.hok p _ h
  obtain ⟨hz, its, n, rv, hg⟩ := okp
  refine ⟨_, I.un (t' := s.toks) (h' := s.heap) (H' := upd H p (.frz { cls := .type "list", data := .seq its.toArray n } (.lst vs))) ⟨fun b o e _ _ _ => e, fun b o e _ _ _ => ⟨o.slots, e⟩, fun b o _ e _ => ?_, fun b o e _ => ⟨o, e⟩, fun b xs e => ?_, fun b o u e => ?_, fun b ps e => ⟨#[], ?_⟩⟩ fun b o e => ?_⟩
  · rw [upd_ne (fun z => by rw [z, h] at e; cases e)]; exact e
  · rw [upd_ne (fun z => by rw [z, h] at e; cases e)]; exact e
  · rw [upd_ne (fun z => by rw [z, h] at e; cases e)]; exact e
  · rw [upd_ne (fun z => by rw [z, h] at e; cases e), e]; simp
  · by_cases hb : b = p
    · subst hb
      rw [upd_same] at e
      cases e
      exact ⟨hg, hz, its, n, rv, hg⟩
    · rw [upd_ne hb] at e
      refine (I.hok b o e).stay (fun _ _ _ q => q) (fun c q => ?_) fun c xs q => ?_
      · rw [upd_ne (fun z => by rw [z, h] at q; cases q)]; exact q
      · rw [upd_ne (fun z => by rw [z, h] at q; cases q)]; exact q
end
section
variable {K : PySem.W.Frag} {φ : List Addr} {H : Hp} {h : Hm}
theorem HR.out (x : HR K φ H h) {p : Addr} {u v : HO} (n : p ∉ φ) (e : H p = some u) (m : mutO u = true) : HR K φ (upd H p v) h := by
  refine ⟨x.len, x.nd, fun k a o e1 e2 => ?_⟩
  refine (x.ob k a o e1 e2).tr (List.prefix_refl _) (Per.wr e m) (upd_ne fun z => n ?_)
  subst z
  exact List.mem_of_getElem? e1
/-- fresh, then frozen -/
theorem Fresh.frz {φ0 : List Addr} {H0 : Hp} {ds : List D} {p : Addr} {vs : List V} {o : Obj} (l : Lat φ0 H0 φ H) (h0 : H0 p = none) (x : HR K φ H h) (n : p ∉ φ) (e : H p = some (.lst vs)) (r : RepL K φ H ds vs) :
    Lat φ0 H0 φ (upd H p (.frz o (.lst vs))) ∧ HR K φ (upd H p (.frz o (.lst vs))) h ∧ Rep K φ (upd H p (.frz o (.lst vs))) (.fl ds) (.ref p) :=
  ⟨⟨l.pre, l.per.trans (Per.wr e rfl), fun b u q m => by rw [upd_ne (ne_of_none q h0)]; exact l.keep b u q m, l.fresh⟩, x.out n e rfl, .fl upd_same (RepL.mono (List.prefix_refl _) (Per.wr e rfl) _ _ r)⟩
/-- fresh, then one of ours -/
theorem Fresh.mut {φ0 : List Addr} {H0 : Hp} {ds : List D} {p : Addr} {vs : List V} (l : Lat φ0 H0 φ H) (h0 : H0 p = none) (x : HR K φ H h) (n : p ∉ φ) (e : H p = some (.lst vs)) (r : RepL K φ H ds vs) :
    Lat φ0 H0 (φ ++ [p]) H ∧ HR K (φ ++ [p]) H (h ++ [.lst ds]) ∧ Rep K (φ ++ [p]) H (.loc h.length) (.ref p) := by
  refine ⟨⟨l.pre.trans (List.prefix_append _ _), l.per, l.keep, fun b m => ?_⟩, x.add n (.lst e (RepL.mono (List.prefix_append _ _) (Per.refl _) _ _ r)), .loc ?_⟩
  · rcases List.mem_append.mp m with m | m
    · exact l.fresh b m
    · simp at m
      subst m
      exact .inr h0
  rw [List.getElem?_append_right (by rw [x.len]; exact Nat.le_refl _)]
  simp [x.len]
end

section
variable {X : Cx} {cl : Nat → Addr} {W : WX} {e a b c : Expr} {es : List Expr} {f g k : Ev} {fl : Lv} {pos : Pos}
theorem s_frz (h : SL X cl W e fl) : SE X cl W e (eFrz fl) := by
  refine ⟨fun pins s σ H Q I p => ?_⟩
  refine thn (h.run pins s σ H (fun v H1 => ∃ p vs, v = .ref p ∧ H1 p = some (.lst vs) ∧ ∀ o, Q v (upd H1 p (.frz o (.lst vs)))) I
    (seq0 (R1 := Fresh X.K) (k := fun xs h1 => Rs.ok (D.fl xs) h1) p (fun φ0 φ H1 h1 ds v l r q P _ => ?_) fun _ _ => .inl ⟨_, _, rfl⟩)) fun u s1 ⟨v, H1, I1, rv, p, vs, e1, e2, q⟩ => ?_
  · obtain ⟨p, vs, rfl, h0, n, e, rr⟩ := q
    refine ⟨p, vs, rfl, e, fun o => ?_⟩
    obtain ⟨l, x, y⟩ := Fresh.frz (o := o) l h0 r n e rr
    exact P _ _ rfl φ _ _ l x y
  · subst e1
    obtain ⟨o, I2⟩ := inv_frz I1 e2
    exact ⟨_, _, I2, rv, q o⟩
theorem s_mut (h : SL X cl W e fl) : SE X cl W e (eMut fl) := PE.of h fun σ H Q p =>
  seq0 (R1 := Fresh X.K) (k := fun xs h1 => Rs.ok (D.loc h1.length) (h1 ++ [Ob.lst xs])) p (fun φ0 φ H1 h1 ds v l r q P _ => by
    obtain ⟨p, vs, rfl, h0, n, e, rr⟩ := q
    obtain ⟨l, x, y⟩ := Fresh.mut l h0 r n e rr
    exact P _ _ rfl _ _ _ l x y) fun _ _ => .inl ⟨_, _, rfl⟩

/-! ### operators -/
theorem line_eq : line = sizeLine := by rw [sizeLine_eq]; rfl
/-- the rule of HandS that a meaning gives -/
def rY (K : PySem.W.Frag) (o : Hm → D → D → Option D) : R2 := fun v u H Q => ∃ (cl : Nat → Addr) (We : WE') (φ : List Addr) (h : Hm) (x y : D), HR K φ H h ∧ Rep K φ H x v ∧ Rep K φ H y u ∧ Post K cl φ H (RR K) (ofO (o h x y) h) Q We
theorem OpY.r {F : Value → Value → Sem Value} {o : Hm → D → D → Option D} (h : OpY X F o) : OpR X F (rY X.K o) := fun pins s σ H x y v u Q I rx ry ⟨cl, We, φ, hh, dx, dy, R, q1, q2, P⟩ =>
  h cl We Q φ H hh dx dy x y pins s σ v u I rx ry R q1 q2 P
/-- an operator whose result is plain -/
theorem opY1 {F : Value → Value → Sem Value} {o : Hm → D → D → Option D}
    (h : ∀ (Q : VK) (φ : List Addr) (H : Hp) (h : Hm) (x y : D) (v u : V) (z : D), HR X.K φ H h → Rep X.K φ H x v → Rep X.K φ H y u → o h x y = some z → (∀ w, Rep X.K φ H z w → Q w H) → ∃ r, OpR X F r ∧ r v u H Q) : OpY X F o :=
  opY_of fun cl We Q φ H h0 x y v u R rx ry P => by
    cases e : o h0 x y with
    | none => rw [e] at P; exact P.elim
    | some z =>
      rw [e] at P
      exact h Q φ H h0 x y v u z R rx ry e fun w hw => P.val R hw
theorem y_sub : OpY X (binaryOp .Sub) oSub := opY1 fun Q φ H h x y v u z R rx ry e q => by
  cases rx <;> cases ry <;> simp [oSub] at e
  subst e
  exact ⟨_, op_sub, _, _, rfl, rfl, q _ (.int _)⟩
theorem big_eq : big = 2 ^ 64 := by decide
theorem y_mul : OpY X (binaryOp .Mult) oMul := opY1 fun Q φ H h x y v u z R rx ry e q => by
  cases rx <;> cases ry <;> simp [oMul] at e
  obtain ⟨c, rfl⟩ := e
  refine ⟨_, op_mul, _, _, rfl, rfl, ?_, q _ (.int _)⟩
  simp only [mulOk, Bool.or_eq_true, Bool.and_eq_true, decide_eq_true_eq, big_eq] at c
  exact c
theorem y_div : OpY X (binaryOp .FloorDiv) oDiv := opY1 fun Q φ H h x y v u z R rx ry e q => by
  cases rx <;> cases ry <;> simp only [oDiv] at e <;> try (cases e; done)
  split at e
  · rename_i c
    cases e
    exact ⟨_, op_fdiv, _, _, rfl, rfl, c, q _ (.int _)⟩
  · split at e
    · rename_i c
      cases e
      exact ⟨_, op_fdivN, _, _, rfl, rfl, ⟨by omega, by omega⟩, q _ (.int _)⟩
    · cases e
theorem y_mod : OpY X (binaryOp .Mod) oMod := opY1 fun Q φ H h x y v u z R rx ry e q => by
  cases rx <;> cases ry <;> simp only [oMod] at e <;> try (cases e; done)
  split at e
  · rename_i c
    cases e
    exact ⟨_, op_mod, _, _, rfl, rfl, c, q _ (.int _)⟩
  · split at e
    · rename_i c
      cases e
      exact ⟨_, op_modN, _, _, rfl, rfl, by omega, q _ (.int _)⟩
    · cases e
theorem y_pow : OpY X (binaryOp .Pow) oPow := opY1 fun Q φ H h x y v u z R rx ry e q => by
  cases rx <;> cases ry <;> simp only [oPow] at e <;> try (cases e; done)
  split at e
  · rename_i c
    cases e
    refine ⟨_, op_pow, _, _, rfl, rfl, ⟨c.1, c.2.1, ?_⟩, q _ (.int _)⟩
    have h1 := c.2.2.1
    have h2 := c.2.2.2
    rw [big_eq] at h1 h2
    omega
  · cases e
/-- the list that stands there, ours or frozen -/
theorem own_at {φ : List Addr} {H : Hp} {h : Hm} (R : HR X.K φ H h) {x : D} {v : V} (rx : Rep X.K φ H x v) {xs : List D} (e : ownL h x = some xs) : ∃ a vs, v = .ref a ∧ Rd H a (.lst vs) ∧ RepL X.K φ H xs vs := by
  cases rx <;> simp only [ownL] at e <;> try (cases e; done)
  case fl a o ds vs hf r => cases e; exact ⟨a, vs, rfl, .inr ⟨o, hf⟩, r⟩
  case loc k a hk =>
    obtain ⟨ob, h1, h2⟩ := R.at hk
    rw [h1] at e
    cases ob <;> simp at e
    subst e
    cases h2 with
    | lst hh r => exact ⟨a, _, rfl, .inl hh, r⟩
theorem lst_at {φ : List Addr} {H : Hp} {h : Hm} (R : HR X.K φ H h) {x : D} {v : V} (rx : Rep X.K φ H x v) {xs : List D} (e : lstOf h x = some xs) : ∃ a vs, v = .ref a ∧ SqL X.K H a vs ∧ RepL X.K φ H xs vs := by
  cases rx <;> simp only [lstOf] at e <;> try (cases e; done)
  case fl a o ds vs hf r => cases e; exact ⟨a, vs, rfl, .inl (.inr ⟨o, hf⟩), r⟩
  case sq a ds vs hf r => cases e; exact ⟨a, vs, rfl, hf.sq, r⟩
  case loc k a hk =>
    obtain ⟨ob, h1, h2⟩ := R.at hk
    rw [h1] at e
    cases ob <;> simp at e
    subst e
    cases h2 with
    | lst hh r => exact ⟨a, _, rfl, .of hh, r⟩
/-- list + list, each ours or frozen -/
def rCatR : R2 := fun x y H Q => ∃ l b xs zs, x = .ref l ∧ y = .ref b ∧ Rd H l (.lst xs) ∧ Rd H b (.lst zs) ∧ xs.length + zs.length ≤ sizeLine ∧ ∀ p, H p = none → Q (.ref p) (upd H p (.lst (xs ++ zs)))
theorem op_catR : OpR X (binaryOp .Add) rCatR := fun pins s σ H x y v u Q I rx ry h => by
  obtain ⟨l, b, xs, zs, rfl, rfl, h1, h2, hz, q⟩ := h
  cases rx
  cases ry
  obtain ⟨z1, i1, n1, r1, e1⟩ := h1.ok I.hok
  obtain ⟨z2, i2, n2, r2, e2⟩ := h2.ok I.hok
  have l1 := r1.length
  have l2 := r2.length
  refine PySem.P.add_list e1 e2 ?_ (by rw [List.size_toArray, List.size_toArray]; omega)
  rw [show i1.toArray ++ i2.toArray = (i1 ++ i2).toArray by simp]
  exact ⟨.ref _, _, I.lnew (t' := s.toks) (r1.append r2) (by rw [List.length_append]; omega), rfl, q _ I.fresh⟩
theorem y_add : OpY X (binaryOp .Add) oAdd := by
  intro cl We Q φ H h x y v u pins s σ vv uu I rv ru R rx ry P
  cases e : oAdd h x y with
  | none => rw [e] at P; exact P.elim
  | some z =>
    rw [e] at P
    have lists : ∀ xs ys, ownL h x = some xs → ownL h y = some ys → xs.length + ys.length ≤ line → z = .fl (xs ++ ys) → wpAny (model X.prog X.w) X.A (binaryOp .Add vv uu) (EP X pins σ Q) X.xe s := by
      intro xs ys e1 e2 hz ez
      subst ez
      obtain ⟨l, vs, rfl, h1, q1⟩ := own_at R rx e1
      obtain ⟨b, us, rfl, h2, q2⟩ := own_at R ry e2
      refine thn (op_catR pins s σ H _ _ vv uu (fun v H1 => ∃ p, v = .ref p ∧ H p = none ∧ H1 = upd H p (.lst (vs ++ us))) I rv ru ⟨l, b, vs, us, rfl, rfl, h1, h2, by rw [← q1.length, ← q2.length, ← line_eq]; exact hz, fun p hp => ⟨p, rfl, hp, rfl⟩⟩) fun w s1 ⟨w1, H1, I1, rw1, p, e1, hp, e3⟩ => ?_
      subst e1; subst e3
      obtain ⟨o, I2⟩ := inv_frz I1 upd_same
      have R1 : HR X.K φ (upd H p (.lst (vs ++ us))) h := R.new hp
      have rr : RepL X.K φ (upd H p (.lst (vs ++ us))) (xs ++ ys) (vs ++ us) := RepL.mono (List.prefix_refl _) (Per.new hp) _ _ (q1.append q2)
      obtain ⟨l1, x1, y1⟩ := Fresh.frz (o := o) (Lat.new hp) hp R1 (R.notin hp) upd_same rr
      exact ⟨_, _, I2, rw1, P φ _ _ l1 x1 y1⟩
    have gen : (match ownL h x, ownL h y with | some xs, some ys => if xs.length + ys.length ≤ line then some (D.fl (xs ++ ys)) else none | _, _ => none) = some z → wpAny (model X.prog X.w) X.A (binaryOp .Add vv uu) (EP X pins σ Q) X.xe s := by
      intro e
      cases e1 : ownL h x with
      | none => rw [e1] at e; cases e
      | some xs =>
        cases e2 : ownL h y with
        | none => rw [e1, e2] at e; cases e
        | some ys =>
          rw [e1, e2] at e
          simp only at e
          split at e
          · exact lists xs ys e1 e2 (by assumption) (Option.some.inj e).symm
          · cases e
    cases rx <;> cases ry <;> first
      | (simp only [oAdd] at e; exact gen e)
      | skip
    · simp [oAdd] at e
      subst e
      exact op_add pins s σ H _ _ vv uu Q I rv ru ⟨_, _, rfl, rfl, P.val R (.int _)⟩
    · simp only [oAdd] at e
      split at e
      · cases e
        exact op_add_str pins s σ H _ _ vv uu Q I rv ru ⟨_, _, rfl, rfl, by rw [← line_eq]; assumption, P.val R (.str _)⟩
      · cases e
    · rename_i a1 d1 v1 h1 r1 a2 d2 v2 h2 r2
      simp only [oAdd] at e
      split at e
      · rename_i hz
        cases e
        refine op_catA pins s σ H _ _ vv uu Q I rv ru ⟨a1, a2, v1, v2, rfl, rfl, SqT.of h1, SqT.of h2, by rw [← r1.length, ← r2.length, ← line_eq]; exact hz, fun z => ?_, fun _ z => ?_, fun _ _ p hp => ?_⟩
        · obtain rfl := r1.nil_iff.mpr z
          exact P.val R (.tup h2 r2)
        · obtain rfl := r2.nil_iff.mpr z
          rw [List.append_nil] at P
          exact P.val R (.tup h1 r1)
        · refine P φ _ _ (Lat.new hp) (R.new hp) (.tup upd_same (RepL.mono (List.prefix_refl _) (Per.new hp) _ _ (r1.append r2)))
      · cases e
end
end Y
end

section
set_option Elab.async false
set_option linter.all false
set_option maxRecDepth 100000
set_option maxHeartbeats 2000000
/-! YE: comparisons, tests, displays, places, built-ins. -/
namespace Y
open PySem PySem.Spec PyProof.Rows L2

section
variable {K : PySem.W.Frag} {φ : List Addr} {H : Hp} {h : Hm}
mutual
theorem Rep.dp : ∀ (d : D) (v : V) (p : PyData), py h d = some p → Rep K φ H d v → Dp K H v p
  | .non, _, _, e, r => by cases r; simp [py] at e; subst e; exact .non
  | .bl _, _, _, e, r => by cases r; simp [py] at e; subst e; exact .bl _
  | .int _, _, _, e, r => by cases r; simp [py] at e; subst e; exact .int _
  | .str _, _, _, e, r => by cases r; simp [py] at e; subst e; exact .str _
  | .tup ds, _, _, e, r => by
    simp [py] at e
    obtain ⟨a, ha, rfl⟩ := e
    cases r with
    | tup h r => exact .tup (SqT.of h) (RepL.dp ds _ _ ha r)
  | .fl ds, _, _, e, r => by
    simp [py] at e
    obtain ⟨a, ha, rfl⟩ := e
    cases r with
    | fl h r => exact .lst (.inl (.inr ⟨_, h⟩)) (RepL.dp ds _ _ ha r)
  | .sq ds, _, _, e, r => by
    simp [py] at e
    obtain ⟨a, ha, rfl⟩ := e
    cases r with
    | sq h r => exact .lst h.sq (RepL.dp ds _ _ ha r)
  | .loc _, _, _, e, _ => by simp [py] at e
theorem RepL.dp : ∀ (d : List D) (v : List V) (p : List PyData), pyL h d = some p → RepL K φ H d v → DpAll K H v p
  | [], _, _, e, r => by cases r; simp [pyL] at e; subst e; exact .nil
  | d :: ds, _, _, e, r => by
    cases r with
    | cons q r =>
      simp only [pyL] at e
      cases e1 : py h d with
      | none => rw [e1] at e; cases e
      | some a =>
        cases e2 : pyL h ds with
        | none => rw [e1, e2] at e; cases e
        | some b =>
          rw [e1, e2] at e
          cases e
          exact .cons (Rep.dp d _ a e1 q) (RepL.dp ds _ b e2 r)
end
end

section
variable {X : Cx} {k : Nat}
theorem dec_bool {P Q : Prop} [Decidable P] [Decidable Q] (h : P ↔ Q) : decide P = decide Q := by
  by_cases p : P
  · rw [decide_eq_true p, decide_eq_true (h.mp p)]
  · rw [decide_eq_false p, decide_eq_false fun q => p (h.mpr q)]
def EqOk (X : Cx) (H : Hp) (v u : V) (b : Bool) : Prop :=
    (∀ Q : VK, Q (.bl b) H → ∃ r, OpR X (compareOp .Eq) r ∧ r v u H Q) ∧ ∀ Q : VK, Q (.bl (!b)) H → ∃ r, OpR X (compareOp .NotEq) r ∧ r v u H Q
theorem eqD_sound (c : Cs k X) {φ : List Addr} {H : Hp} {h : Hm} {x y : D} {v u : V} {b : Bool} (rx : Rep X.K φ H x v) (ry : Rep X.K φ H y u) (e : eqD h x y = some b) : EqOk X H v u b := by
  have gen : (match py h x, py h y with | some a, some b => if SeqAt.shaped a && SeqAt.shaped b then some (PyData.eqv a b) else none | _, _ => none) = some b → EqOk X H v u b := by
    intro e
    cases e1 : py h x with
    | none => rw [e1] at e; cases e
    | some a =>
      cases e2 : py h y with
      | none => rw [e1, e2] at e; cases e
      | some d =>
        rw [e1, e2] at e
        simp only at e
        split at e
        · rename_i hs
          cases e
          rw [Bool.and_eq_true] at hs
          have d1 := Rep.dp x v a e1 rx
          have d2 := Rep.dp y u d e2 ry
          exact ⟨fun Q q => ⟨_, op_eqD c.room.units, a, d, d1, d2, hs.1, hs.2, q⟩, fun Q q => ⟨_, op_neD c.room.units, a, d, d1, d2, hs.1, hs.2, q⟩⟩
        · cases e
  cases rx <;> cases ry <;> first
    | (simp only [eqD] at e; exact gen e)
    | (simp only [eqD] at e
       cases e
       refine ⟨fun Q q => ⟨_, op_eq, rfl, ?_⟩, fun Q q => ⟨_, op_ne, rfl, ?_⟩⟩ <;>
       (simpa using q))
theorem y_eq (c : Cs k X) : OpY X (compareOp .Eq) oEq := opY1 fun Q φ H h x y v u z R rx ry e q => by
  simp only [oEq, Option.map_eq_some_iff] at e
  obtain ⟨b, e, rfl⟩ := e
  exact (eqD_sound c rx ry e).1 Q (q _ (.bl b))
theorem y_ne (c : Cs k X) : OpY X (compareOp .NotEq) oNe := opY1 fun Q φ H h x y v u z R rx ry e q => by
  simp only [oNe, Option.map_eq_some_iff] at e
  obtain ⟨b, e, rfl⟩ := e
  exact (eqD_sound c rx ry e).2 Q (q _ (.bl (!b)))
theorem y_lt (c : Cs k X) : OpY X (compareOp .Lt) oLt := opY1 fun Q φ H h x y v u z R rx ry e q => by
  cases rx <;> cases ry <;> simp only [oLt] at e <;> try (cases e; done)
  · cases e
    exact ⟨_, op_lt, _, _, rfl, rfl, q _ (.bl _)⟩
  · rename_i a1 d1 v1 h1 r1 a2 d2 v2 h2 r2
    cases e1 : intsOf d1 with
    | none => rw [e1] at e; cases e
    | some ns =>
      cases e2 : intsOf d2 with
      | none => rw [e1, e2] at e; cases e
      | some ms =>
        rw [e1, e2] at e
        cases e
        rw [r1.intsOf e1] at h1
        rw [r2.intsOf e2] at h2
        exact ⟨_, op_ltT c.room.units0, a1, a2, ns, ms, rfl, rfl, SqT.of h1, SqT.of h2, q _ (.bl _)⟩
theorem y_le : OpY X (compareOp .LtE) oLe := opY1 fun Q φ H h x y v u z R rx ry e q => by
  cases rx <;> cases ry <;> simp only [oLe] at e <;> try (cases e; done)
  cases e
  exact ⟨_, op_le, _, _, rfl, rfl, q _ (.bl _)⟩
theorem y_gt : OpY X (compareOp .Gt) oGt := opY1 fun Q φ H h x y v u z R rx ry e q => by
  cases rx <;> cases ry <;> simp only [oGt] at e <;> try (cases e; done)
  cases e
  exact ⟨_, op_gt, _, _, rfl, rfl, q _ (.bl _)⟩
theorem y_ge : OpY X (compareOp .GtE) oGe := opY1 fun Q φ H h x y v u z R rx ry e q => by
  cases rx <;> cases ry <;> simp only [oGe] at e <;> try (cases e; done)
  cases e
  exact ⟨_, op_ge, _, _, rfl, rfl, q _ (.bl _)⟩
theorem isN_of {φ : List Addr} {H : Hp} {x : D} {v : V} (r : Rep X.K φ H x v) : isN x = decide (v = .non) := by cases r <;> simp [isN]
theorem y_is : OpY X (compareOp .Is) oIs := opY1 fun Q φ H h x y v u z R rx ry e q => by
  have n := isN_of rx
  cases ry <;> simp only [oIs] at e
  case non =>
    cases e
    refine ⟨_, op_isN, rfl, ?_⟩
    rw [← n]
    exact q _ (.bl _)
  case bl b =>
    cases rx <;> simp at e
    subst e
    exact ⟨_, op_isBl, _, _, rfl, rfl, q _ (.bl _)⟩
  all_goals (cases x <;> cases e)
theorem y_isNot : OpY X (compareOp .IsNot) oIsNot := opY1 fun Q φ H h x y v u z R rx ry e q => by
  have n := isN_of rx
  cases ry <;> simp only [oIsNot] at e
  case non =>
    cases e
    refine ⟨_, op_notN, rfl, ?_⟩
    rw [← n]
    exact q _ (.bl _)
  case bl b =>
    cases rx <;> simp at e
    subst e
    exact ⟨_, op_notBl, _, _, rfl, rfl, q _ (.bl _)⟩
  all_goals (cases x <;> cases e)
end

section
variable {X : Cx} {cl : Nat → Addr} {W : WX} {e a b c : Expr} {es : List Expr} {f g q : Ev} {fa : Av} {t t' : Tv} {pos : Pos} {k : Nat}
/-! ### one operand -/
theorem s_neg (ha : SE X cl W a f) : SE X cl W (.UnaryOp .USub a pos) (e1 uNeg f) := PE.of (pe_un un_neg ha) fun σ H Q p =>
  seq1 (k := fun x h1 => ofO (uNeg h1 x) h1) p fun φ H1 h1 x v r q P => by
    cases q <;> first | exact P.elim | exact ⟨_, rfl, P.val r (.int _)⟩
theorem s_not (ha : SE X cl W a f) : SE X cl W (.UnaryOp .Not a pos) (e1 uNot f) := PE.of (pe_not ha) fun σ H Q p =>
  seq1 (k := fun x h1 => ofO (uNot h1 x) h1) p fun φ H1 h1 x v r q P => by
    cases q <;> first | exact P.elim | exact ⟨_, rfl, P.val r (.bl _)⟩
/-! ### and, or, if as values -/
theorem tG.later {α β : Type} {K : PySem.W.Frag} {Rel : RT α β} {f : Sl → Hm → Rs α} {φ : List Addr} {st : Sl} {σ : L2.St} {H : Hp} {h : Hm} {Q : β → Hp → Prop} (S : SR K φ H st σ) (R : HR K φ H h) (P : Post K cl φ H Rel (f st h) Q fun c d H' => W c d σ H') : tG K cl W Rel f σ H Q := ⟨φ, st, h, S, R, P⟩
/-- an evaluation, then what hangs on it, the slots at hand -/
theorem seqS {α β γ δ : Type} {R1 : RT γ δ} {f : Sl → Hm → Rs γ} {σ : L2.St} {H : Hp} {Q : β → Hp → Prop} {Rel : RT α β} [Back Rel] {k : Sl → γ → Hm → Rs α} {R : δ → Hp → Prop}
    (p : tG X.K cl W Rel (fun σ h => (f σ h).bind fun x h1 => k σ x h1) σ H Q)
    (h : ∀ φ st H1 h1 x v, SR X.K φ H1 st σ → HR X.K φ H1 h1 → R1 H φ H1 x v → Post X.K cl φ H1 Rel (k st x h1) Q (fun c d H' => W c d σ H') → R v H1) :
    tG X.K cl W R1 f σ H R := by
  obtain ⟨φ, st, h0, S, R0, P⟩ := p
  exact ⟨φ, st, h0, S, R0, P.seq fun x h1 φ1 H1 v l1 r1 q1 P1 => h φ1 st H1 h1 x v (S.mono l1) r1 q1 P1⟩
variable {rest : List Expr}
theorem s_one {op} (h : SE X cl W a f) : SE X cl W (.BoolOp op [a] pos) f := pe_one h
theorem s_and (ha : SE X cl W a f) (hb : SE X cl W (.BoolOp .And (b :: rest) pos) g) : SE X cl W (.BoolOp .And (a :: b :: rest) pos) (eAnd f g) := PE.of (pe_and ha hb) fun σ H Q p =>
  seqS (k := fun σ x h1 => match x with | .bl true => g σ h1 | .bl false => .ok (.bl false) h1 | _ => .bad) p fun φ st H1 h1 x v S r q P => by
    cases q <;> first | exact P.elim | skip
    rename_i b
    cases b with
    | true => exact ⟨true, rfl, φ, st, h1, S, r, P⟩
    | false => exact ⟨false, rfl, P.val r (.bl _)⟩
theorem s_or (ha : SE X cl W a f) (hb : SE X cl W (.BoolOp .Or (b :: rest) pos) g) : SE X cl W (.BoolOp .Or (a :: b :: rest) pos) (eOr f g) := PE.of (pe_or ha hb) fun σ H Q p =>
  seqS (k := fun σ x h1 => match x with | .bl false => g σ h1 | .bl true => .ok (.bl true) h1 | _ => .bad) p fun φ st H1 h1 x v S r q P => by
    cases q <;> first | exact P.elim | skip
    rename_i b
    cases b with
    | false => exact ⟨false, rfl, φ, st, h1, S, r, P⟩
    | true => exact ⟨true, rfl, P.val r (.bl _)⟩
theorem s_if (hc : ST X cl W c t) (ha : SE X cl W a f) (hb : SE X cl W b g) : SE X cl W (.IfExp c a b pos) (eIf t f g) := PE.of (pe_ifExp hc ha hb) fun σ H Q p =>
  seqS (k := fun σ x h1 => if x = true then f σ h1 else g σ h1) p fun φ st H1 h1 x v S r q P => by
    cases (show x = v from q)
    cases x with
    | true => exact ⟨φ, st, h1, S, r, P⟩
    | false => exact ⟨φ, st, h1, S, r, P⟩
/-! ### tests -/
theorem w_and1 (ha : ST X cl W a t) : SW X cl W (.BoolOp .And [a] pos) t := pw_and1 ha
theorem w_or1 (ha : ST X cl W a t) : SW X cl W (.BoolOp .Or [a] pos) t := pw_or1 ha
theorem w_and (ha : ST X cl W a t) (hb : SW X cl W (.BoolOp .And (b :: rest) pos) t') : SW X cl W (.BoolOp .And (a :: b :: rest) pos) (tAnd t t') := PW.of (pw_and ha hb) fun σ H Q p =>
  seqS (k := fun σ x h1 => if x = true then t' σ h1 else .ok false h1) p fun φ st H1 h1 x v S r q P => by
    cases (show x = v from q)
    cases x with
    | true => exact ⟨φ, st, h1, S, r, P⟩
    | false => exact P.val r rfl
theorem w_or (ha : ST X cl W a t) (hb : SW X cl W (.BoolOp .Or (b :: rest) pos) t') : SW X cl W (.BoolOp .Or (a :: b :: rest) pos) (tOr t t') := PW.of (pw_or ha hb) fun σ H Q p =>
  seqS (k := fun σ x h1 => if x = true then .ok true h1 else t' σ h1) p fun φ st H1 h1 x v S r q P => by
    cases (show x = v from q)
    cases x with
    | true => exact P.val r rfl
    | false => exact ⟨φ, st, h1, S, r, P⟩
theorem t_w (h : SW X cl W e t) : ST X cl W e t := PW.pt h
theorem t_not (ha : ST X cl W a t) : ST X cl W (.UnaryOp .Not a pos) (tNot t) := PT.of (pt_not ha) fun σ H Q p =>
  seq1 (k := fun x h1 => .ok (!x) h1) p fun φ H1 h1 x v r q P => by
    cases (show x = v from q)
    exact P.val r rfl
theorem truth_sound {φ : List Addr} {H : Hp} {h : Hm} (R : HR X.K φ H h) {x : D} {v : V} (rx : Rep X.K φ H x v) {b : Bool} (e : truth h x = some b) : TruV X.K v H b := by
  have lists : ∀ xs, lstOf h x = some xs → b = !xs.isEmpty → TruV X.K v H b := by
    intro xs e1 e2
    obtain ⟨a, vs, rfl, hq, r⟩ := lst_at R rx e1
    exact .inl ⟨vs, hq, by rw [e2, r.empty]⟩
  have wrap : Option.map (fun xs => !List.isEmpty xs) (lstOf h x) = some b → TruV X.K v H b := fun e => by
    obtain ⟨xs, e1, e2⟩ := Option.map_eq_some_iff.mp e
    exact lists xs e1 e2.symm
  cases rx
  case non => simp only [truth] at e; cases e; rfl
  case bl => simp only [truth] at e; cases e; rfl
  case int =>
    simp only [truth] at e; cases e
    show _ = _
    rw [Bool.eq_iff_iff]
    simp
  case str x =>
    simp only [truth] at e
    split at e
    · rename_i hx
      cases e
      refine ⟨by rw [← line_eq]; exact hx, ?_⟩
      rw [Bool.eq_iff_iff]
      simp <;> omega
    · cases e
  case tup a ds vs h r =>
    simp only [truth] at e
    cases e
    exact .inr (.inl ⟨vs, SqT.of h, by rw [r.empty]⟩)
  case fl => exact wrap e
  case sq => exact wrap e
  case loc => exact wrap e
  case obj => exact wrap e
theorem t_tr (ha : SE X cl W a f) (he : ∀ whole, isTrue a X.env whole = (do let v ← whole; standAt a.pos; holding [v] (truthy v)) := by intro _; rfl) : ST X cl W a (tT f) := PT.of (pt_truth ha he) fun σ H Q p =>
  seq1 (k := fun x h1 => ofO (truth h1 x) h1) p fun φ H1 h1 x v r q P => by
    cases e : truth h1 x with
    | none => rw [e] at P; exact P.elim
    | some b =>
      rw [e] at P
      exact ⟨b, truth_sound r q e, P.val r rfl⟩
/-! ### a chain of two comparisons -/
theorem chain_imp {o o' : Hm → D → D → Option D} {σ : L2.St} {H : Hp} {Q : VK} (p : tG X.K cl W (RR X.K) (eCh o o' f g q) σ H Q) : tChain (rY X.K o) (rY X.K o') (tG X.K cl W (RR X.K) f) (tG X.K cl W (RR X.K) g) (tG X.K cl W (RR X.K) q) σ H Q := by
  obtain ⟨φ, st, h0, S, R0, P⟩ := p
  refine ⟨φ, st, h0, S, R0, P.seq fun x h1 φ1 H1 v l1 r1 q1 P1 => ⟨φ1, st, h1, S.mono l1, r1, P1.seq fun y h2 φ2 H2 u l2 r2 q2 P2 => ?_⟩⟩
  refine ⟨cl, fun c d H' => W c d σ H', φ2, h2, x, y, r2, Rep.mono l2.pre l2.per _ _ q1, q2, ?_⟩
  cases e : o h2 x y with
  | none => rw [e] at P2; exact P2.elim
  | some z =>
    rw [e] at P2
    intro φ3 H3 w l3 r3 q3
    cases q3 <;> first | exact P2.elim | skip
    rename_i bb
    refine ⟨bb, rfl, ?_⟩
    cases bb with
    | false => exact P2 φ3 H3 _ l3 r3 (.bl _)
    | true =>
      rw [if_pos rfl]
      have P3 := Post.lat P2 l3
      refine ⟨φ3, st, h2, S.mono (l1.trans (l2.trans l3)), r3, P3.seq fun z h4 φ4 H4 w l4 r4 q4 P4 => ?_⟩
      exact ⟨cl, fun c d H' => W c d σ H', φ4, h4, y, z, r4, Rep.mono (l3.trans l4).pre (l3.trans l4).per _ _ q2, q4, P4⟩
theorem s_chain {op op' : CmpOp} {o o' : Hm → D → D → Option D} (ho : OpY X (compareOp op) o) (ho' : OpY X (compareOp op') o') (ha : SE X cl W a f) (hb : SE X cl W b g) (hc : SE X cl W c q)
    (hm : lastMarks [op, op'] [b, c] = false := by with_unfolding_all rfl) : SE X cl W (.Compare a [op, op'] [b, c] pos) (eCh o o' f g q) := PE.of (pe_chain ho.r ho'.r ha hb hc hm) fun σ H Q p => chain_imp p
theorem t_chain {op op' : CmpOp} {o o' : Hm → D → D → Option D} (ho : OpY X (compareOp op) o) (ho' : OpY X (compareOp op') o') (ha : SE X cl W a f) (hb : SE X cl W b g) (hc : SE X cl W c q)
    (hm : lastMarks [op, op'] [b, c] = false := by with_unfolding_all rfl) : ST X cl W (.Compare a [op, op'] [b, c] pos) (tB (eCh o o' f g q)) := PT.of (pt_chain ho.r ho'.r ha hb hc hm) fun σ H Q p => by
  refine chain_imp ?_
  refine seq1 (k := fun x h1 => match x with | .bl b => .ok b h1 | _ => .bad) p fun φ H1 h1 x v r q P => ?_
  cases q with
  | bl b => exact ⟨b, rfl, P.val r rfl⟩
  | _ => exact P.elim

/-! ### argument lists, displays -/
theorem a_nil : SA X cl W [] aN := PA.of pa_nil fun σ H Q ⟨φ, st, h0, S, R, P⟩ => P.val R .nil
theorem a_cons (ha : SE X cl W e f) (hr : SA X cl W es fa) (hs : starEach (e :: es) X.env = (false, eval e X.env) :: starEach es X.env := by rfl) : SA X cl W (e :: es) (aC f fa) := PA.of (pa_cons ha hr hs) fun σ H Q p => by
  obtain ⟨φ, st, h0, S, R0, P⟩ := p
  refine ⟨φ, st, h0, S, R0, P.seq fun x h1 φ1 H1 v l1 r1 q1 P1 => ⟨φ1, st, h1, S.mono l1, r1, P1.seq fun xs h2 φ2 H2 vs l2 r2 q2 P2 => ?_⟩⟩
  exact P2.val r2 (.cons (Rep.mono l2.pre l2.per _ _ q1) q2)
theorem s_tup {x1} (h : SA X cl W es fa) : SE X cl W (.Tuple es x1 pos) (eTup fa) := PE.of (pe_tup h) fun σ H Q p =>
  seq1 (k := fun xs h1 => if xs.length ≤ line then Rs.ok (D.tup xs) h1 else .bad) p fun φ H1 h1 xs vs r q P => by
    split at P
    · rename_i hz
      refine ⟨by rw [← q.length, ← line_eq]; exact hz, fun p hp => P φ _ _ (Lat.new hp) (r.new hp) (.tup upd_same (RepL.mono (List.prefix_refl _) (Per.new hp) _ _ q))⟩
    · exact P.elim
theorem fresh_new {φ : List Addr} {H : Hp} {h : Hm} (r : HR X.K φ H h) {p : Addr} (hp : H p = none) {ds : List D} {vs : List V} (q : RepL X.K φ H ds vs) : Fresh X.K H φ (upd H p (.lst vs)) ds (.ref p) :=
  ⟨p, vs, rfl, hp, r.notin hp, upd_same, RepL.mono (List.prefix_refl _) (Per.new hp) _ _ q⟩
theorem l_lst (h : SA X cl W es fa) : SL X cl W (.List es pos) (lLst fa) := PE.of (pe_lst h) fun σ H Q p =>
  seq1 (k := fun xs h1 => if xs.length ≤ line then Rs.ok xs h1 else .bad) p fun φ H1 h1 xs vs r q P => by
    split at P
    · rename_i hz
      exact ⟨by rw [← q.length, ← line_eq]; exact hz, fun p hp => P φ _ _ (Lat.new hp) (r.new hp) (fresh_new r hp q)⟩
    · exact P.elim
end
end Y
end

section
set_option Elab.async false
set_option linter.all false
set_option maxRecDepth 100000
set_option maxHeartbeats 2000000
/-! YF: places, built-in calls, targets, loops, comprehensions, statements. -/
namespace Y
open PySem PySem.Spec PyProof.Rows L2

section
variable {X : Cx} {cl : Nat → Addr} {W : WX} {e a b c : Expr} {es : List Expr} {f g q : Ev} {fa : Av} {t t' : Tv} {pos : Pos} {k : Nat}
/-! ### x[y] -/
theorem RepL.atI {K : PySem.W.Frag} {φ : List Addr} {H : Hp} {ds : List D} {vs : List V} {i : Int} {d : D} (r : RepL K φ H ds vs) (e : atI ds i = some d) : ∃ v, L2.atI vs i = some v ∧ Rep K φ H d v := by
  unfold L2.atI at e ⊢
  rw [r.length] at e
  cases h : ixN vs.length i with
  | none => rw [h] at e; cases e
  | some j =>
    rw [h] at e
    obtain ⟨v, h1, h2⟩ := r.get (i := j) (by simpa using e)
    exact ⟨v, by simpa using h1, h2⟩
def rD : R2 := fun x y H Q => ∃ a v, x = .ref a ∧ DGet H a y (some v) ∧ Q v H
theorem ix_dict (hu : X.A.units + 1 < cLine) : IxR X rD := fun value slice pins s σ H x y v u Q I rx ry h hs => by
  obtain ⟨a, w, rfl, g, q⟩ := h
  cases rx
  exact tail_any (dict_typeIs I g) PySem.F.slot_dict_getitem.lookup (d_getItem hu I g ry fun w' s' I' r' => ⟨w, H, I', r', q⟩) hs
theorem key_of_rep {K : PySem.W.Frag} {φ : List Addr} {H : Hp} {y : D} {u : V} {k : Key} (r : Rep K φ H y u) (e : keyOf y = some k) : u = kV k := by
  cases r <;> simp [keyOf] at e <;> subst e <;> rfl
def rI (K : PySem.W.Frag) : R2 := fun x y H Q => rIx K x y H Q ∨ rD x y H Q
theorem ix_all (hu : X.A.units + 1 < cLine) : IxR X (rI X.K) := ix_seq.or (ix_dict hu)
theorem ixD_sound {φ : List Addr} {H : Hp} {h : Hm} {x y z : D} {v u : V} (R : HR X.K φ H h) (rx : Rep X.K φ H x v) (ry : Rep X.K φ H y u) (e : ixD h x y = some z) {Q : VK} (q : ∀ w, Rep X.K φ H z w → Q w H) : rIx X.K v u H Q := by
  have seqs : ∀ xs i, lstOf h x = some xs → y = .int i → atI xs i = some z → rIx X.K v u H Q := by
    intro xs i e1 e2 e3
    subst e2
    cases ry
    obtain ⟨a, vs, rfl, hq, r⟩ := lst_at R rx e1
    obtain ⟨w, h1, h2⟩ := r.atI e3
    exact .inl ⟨a, vs, i, w, rfl, rfl, hq, h1, q w h2⟩
  cases y <;> simp only [ixD] at e <;> try (cases x <;> cases e; done)
  rename_i i
  cases x <;> simp only [ixD, seqOf] at e
  case str x =>
    cases rx; cases ry
    split at e
    · rename_i hx
      obtain ⟨c, hc, rfl⟩ := Option.map_eq_some_iff.mp e
      exact .inr (.inr ⟨x, i, c, rfl, rfl, by rw [← line_eq]; exact hx, hc, q _ (.str _)⟩)
    · cases e
  case tup xs =>
    cases ry
    cases rx with
    | tup hq r =>
      obtain ⟨w, h1, h2⟩ := r.atI (by simpa using e)
      exact .inr (.inl ⟨_, _, i, w, rfl, rfl, SqT.of hq, h1, q w h2⟩)
  all_goals (obtain ⟨xs, e1, e2⟩ := Option.bind_eq_some_iff.mp e; exact seqs xs i e1 rfl e2)
theorem s_ix (c0 : Cs k X) (ha : SE X cl W a f) (hb : SE X cl W b g) (hs : PlainIx b) : SE X cl W (.Subscript a b pos) (e2 oIx f g) := PE.of (pe_ix (ix_all c0.hu) ha hb hs) fun σ H Q p =>
  seq2 p fun φ H2 h2 x y v u R rx ry P => by
    cases e : oIx h2 x y with
    | none => rw [e] at P; exact P.elim
    | some z =>
      rw [e] at P
      have q : ∀ w, Rep X.K φ H2 z w → Q w H2 := fun w hw => P.val R hw
      unfold oIx at e
      cases e1 : dctOf h2 x with
      | none =>
        rw [e1] at e
        exact .inl (ixD_sound R rx ry e q)
      | some kvs =>
        rw [e1] at e
        simp only [oDget, e1] at e
        cases e2 : keyOf y with
        | none => rw [e2] at e; cases e
        | some ky =>
          rw [e2] at e
          have e3 := key_of_rep ry e2
          subst e3
          cases rx <;> simp only [dctOf] at e1 <;> try (cases e1; done)
          rename_i n ad hk
          obtain ⟨ob, h3, h4⟩ := R.at hk
          rw [h3] at e1
          cases ob <;> simp at e1
          subst e1
          cases h4 with
          | dct hh rr =>
            rcases rr.get ky with ⟨z1, _⟩ | ⟨dd, w, z1, z2, z3⟩
            · have e' : (none : Option D) = some z := by rw [← z1]; exact e
              cases e'
            · have e' : some dd = some z := by rw [← z1]; exact e
              cases e'
              refine .inr ⟨ad, w, rfl, ?_, q w z3⟩
              rw [← z2]
              exact .k hh

/-! ### isinstance -/
def tyName : Ty → String
  | .int => "int" | .bool => "bool" | .tuple => "tuple" | .list => "list" | .str => "str" | .dict => "dict"
theorem kits (T : Ty) : kitB "NoneType" (tyName T) = some false ∧ kitB "bool" (tyName T) = some (match T with | .int => true | .bool => true | _ => false) ∧ kitB "int" (tyName T) = some (match T with | .int => true | _ => false) ∧
    kitB "str" (tyName T) = some (match T with | .str => true | _ => false) ∧ kitB "tuple" (tyName T) = some (match T with | .tuple => true | _ => false) ∧ kitB "list" (tyName T) = some (match T with | .list => true | _ => false) ∧ kitB "dict" (tyName T) = some (match T with | .dict => true | _ => false) := by
  cases T <;> decide +kernel
theorem inst_sound {φ : List Addr} {H : Hp} {h : Hm} {x : D} {v : V} {T : Ty} {r : Bool} (R : HR X.K φ H h) (rx : Rep X.K φ H x v) (e : instD h T x = some r) : ∃ t, TyX X.K H v t ∧ PySem.W.kitOne X.K t (.type (tyName T)) = some r := by
  obtain ⟨k1, k2, k3, k4, k5, k6, k7⟩ := kits T
  have tupK : ∀ {a : Addr} {vs : List V}, SqT X.K H a vs → TyX X.K H (.ref a) (.type "tuple") := fun hq => by
    rcases hq with (h | ⟨o, h⟩) | ⟨o, its, n, hk, hc, _⟩
    · exact .base (.tup h)
    · exact .fTuple h
    · exact .kTuple hk hc
  have lstK : ∀ {a : Addr} {vs : List V}, SqL X.K H a vs → TyX X.K H (.ref a) (.type "list") := fun hq => by
    rcases hq with (h | ⟨o, h⟩) | ⟨o, its, n, hk, hc, _⟩
    · exact .base (.lst h)
    · exact .base (.frz h)
    · exact .kList hk hc
  cases rx with
  | non => refine ⟨_, .base .non, kit_ty ?_⟩; rw [k1]; cases T <;> simpa [instD] using e
  | bl b => refine ⟨_, .base (.bl b), kit_ty ?_⟩; rw [k2]; cases T <;> simpa [instD] using e
  | int b => refine ⟨_, .base (.int b), kit_ty ?_⟩; rw [k3]; cases T <;> simpa [instD] using e
  | str b => refine ⟨_, .base (.str b), kit_ty ?_⟩; rw [k4]; cases T <;> simpa [instD] using e
  | tup hq _ => refine ⟨_, tupK (SqT.of hq), kit_ty ?_⟩; rw [k5]; cases T <;> simpa [instD] using e
  | fl hq _ => refine ⟨_, lstK (.inl (.inr ⟨_, hq⟩)), kit_ty ?_⟩; rw [k6]; cases T <;> simpa [instD] using e
  | sq hq _ => refine ⟨_, lstK hq.sq, kit_ty ?_⟩; rw [k6]; cases T <;> simpa [instD] using e
  | obj _ _ _ _ _ => cases T <;> simp [instD] at e
  | loc hk =>
    obtain ⟨ob, h1, h2⟩ := R.at hk
    cases h2 with
    | lst hh _ => refine ⟨_, .base (.lst hh), kit_ty ?_⟩; rw [k6]; cases T <;> simpa [instD, h1] using e
    | dct hh _ => refine ⟨_, .base (.dK hh), kit_ty ?_⟩; rw [k7]; cases T <;> simpa [instD, h1] using e
    | dtu hh _ => refine ⟨_, .base (.dT hh), kit_ty ?_⟩; rw [k7]; cases T <;> simpa [instD, h1] using e
theorem s_isi {p1 p2 : Pos} (T : Ty) (ha : SE X cl W a f) (hg : Gl X "isinstance" := by rfl) (hm : X.mg "isinstance" = none) (hg2 : Gl X (Str.ofString (tyName T)) := by rfl) (hm2 : X.mg (Str.ofString (tyName T)) = none)
    (hb : bootBuiltins (Str.ofString (tyName T)) = some (.type (tyName T))) (hn : Str.ofString (tyName T) ≠ "__name__") (hd : (Str.ofString (tyName T) == ("__debug__" : Str)) = false)
    (he : starEach [a, .Name (Str.ofString (tyName T)) p2] X.env = (false, eval a X.env) :: starEach [.Name (Str.ofString (tyName T)) p2] X.env := by rfl)
    (he2 : starEach [.Name (Str.ofString (tyName T)) p2] X.env = (false, eval (.Name (Str.ofString (tyName T)) p2) X.env) :: starEach [] X.env := by rfl)
    (hpl : (backTo pos (starEach [.Name (Str.ofString (tyName T)) p2] X.env)).any (·.1) = false := by rfl) :
    SE X cl W (.Call (.Name "isinstance" p1) [a, .Name (Str.ofString (tyName T)) p2] [] pos) (eIs T f) := by
  refine PE.of (pe_callB call_isi hg hm (by decide +kernel) (pa_cons ha (pa_cons (pe_bltn (v := .ty (tyName T)) hg2 hm2 hb rfl hn hd) pa_nil he2) he) (by decide) (by decide) he hpl) fun σ H Q p => ?_
  refine seq1 (k := fun x h1 => ofO ((instD h1 T x).map D.bl) h1) p fun φ H1 h1 x v R rx P => ?_
  cases e : instD h1 T x with
  | none => rw [e] at P; exact P.elim
  | some r =>
    rw [e] at P
    obtain ⟨t, h2, h3⟩ := inst_sound R rx e
    exact ⟨v, .ty (tyName T), t, .type (tyName T), r, rfl, .ty _, h2, h3, P.val R (.bl r)⟩

/-! ### built-in functions, by values -/
def rC (K : PySem.W.Frag) {β : Type} (o : Hm → List D → Option β) (Rel : RT β V) : List V → Hp → VK → Prop := fun vs H Q => ∃ (cl : Nat → Addr) (We : WE') (φ : List Addr) (h : Hm) (xs : List D), HR K φ H h ∧ RepL K φ H xs vs ∧ Post K cl φ H Rel (ofO (o h xs) h) Q We
/-- a built-in's meaning -/
def CaY (X : Cx) (F : Value) (o : Hm → List D → Option D) : Prop := CallR X F (rC X.K o (RR X.K))
def CaL (X : Cx) (F : Value) (o : Hm → List D → Option (List D)) : Prop := CallR X F (rC X.K o (Fresh X.K))
theorem caY {F : Value} {o : Hm → List D → Option D} (h : ∀ (Q : VK) (φ : List Addr) (H : Hp) (h : Hm) (xs : List D) (vs : List V) (z : D), HR X.K φ H h → RepL X.K φ H xs vs → o h xs = some z →
    (∀ φ' H' w, Lat φ H φ' H' → HR X.K φ' H' h → Rep X.K φ' H' z w → Q w H') → ∃ r, CallR X F r ∧ r vs H Q) : CaY X F o := fun pins s σ H vs us Q I r ⟨cl, We, φ, hh, xs, R, q, P⟩ => by
  cases e : o hh xs with
  | none => rw [e] at P; exact P.elim
  | some z =>
    rw [e] at P
    obtain ⟨r', h1, h2⟩ := h Q φ H hh xs vs z R q e P
    exact h1 pins s σ H vs us Q I r h2
theorem caL {F : Value} {o : Hm → List D → Option (List D)} (h : ∀ (Q : VK) (φ : List Addr) (H : Hp) (h : Hm) (xs : List D) (vs : List V) (z : List D), HR X.K φ H h → RepL X.K φ H xs vs → o h xs = some z →
    (∀ φ' H' w, Lat φ H φ' H' → HR X.K φ' H' h → Fresh X.K H φ' H' z w → Q w H') → ∃ r, CallR X F r ∧ r vs H Q) : CaL X F o := fun pins s σ H vs us Q I r ⟨cl, We, φ, hh, xs, R, q, P⟩ => by
  cases e : o hh xs with
  | none => rw [e] at P; exact P.elim
  | some z =>
    rw [e] at P
    obtain ⟨r', h1, h2⟩ := h Q φ H hh xs vs z R q e P
    exact h1 pins s σ H vs us Q I r h2
theorem RepL.one {φ : List Addr} {H : Hp} {K : PySem.W.Frag} {d : D} {vs : List V} (r : RepL K φ H [d] vs) : ∃ v, vs = [v] ∧ Rep K φ H d v := by
  cases r with
  | cons h r => cases r; exact ⟨_, rfl, h⟩
theorem seq_at {φ : List Addr} {H : Hp} {h : Hm} (R : HR X.K φ H h) {x : D} {v : V} (rx : Rep X.K φ H x v) {xs : List D} (e : seqOf h x = some xs) : ∃ a vs, v = .ref a ∧ (SqL X.K H a vs ∨ SqT X.K H a vs) ∧ RepL X.K φ H xs vs := by
  cases rx
  case tup a ds vs hq r => simp [seqOf] at e; subst e; exact ⟨a, vs, rfl, .inr (SqT.of hq), r⟩
  case fl a o ds vs hq r => obtain ⟨a, vs, e1, e2, e3⟩ := lst_at R (.fl hq r) e; exact ⟨a, vs, e1, .inl e2, e3⟩
  case sq a ds vs hq r => obtain ⟨a, vs, e1, e2, e3⟩ := lst_at R (.sq hq r) e; exact ⟨a, vs, e1, .inl e2, e3⟩
  case loc k a hk => obtain ⟨a, vs, e1, e2, e3⟩ := lst_at R (.loc hk) e; exact ⟨a, vs, e1, .inl e2, e3⟩
  all_goals (simp [seqOf, lstOf] at e)
theorem c_len : CaY X (.builtin "len") bLen := caY fun Q φ H h xs vs z R r e q => by
  rcases xs with _ | ⟨d, _ | _⟩
  · simp [bLen] at e
  · obtain ⟨v, rfl, rd⟩ := r.one
    have gen : (seqOf h d).map (fun xs => D.int xs.length) = some z → ∃ r, CallR X (.builtin "len") r ∧ r [v] H Q := fun e => by
      obtain ⟨ys, e1, rfl⟩ := Option.map_eq_some_iff.mp e
      obtain ⟨a, us, rfl, hq, rr⟩ := seq_at R rd e1
      refine ⟨_, call_len_seq, a, us, rfl, hq, ?_⟩
      rw [← rr.length]
      exact q φ H _ (Lat.refl _ _) R (.int _)
    cases d
    case str x =>
      cases rd
      simp only [bLen] at e
      split at e
      · rename_i hx
        cases e
        exact ⟨_, call_len_str, x, rfl, by rw [← line_eq]; exact hx, q φ H _ (Lat.refl _ _) R (.int _)⟩
      · cases e
    all_goals exact gen e
  · simp [bLen] at e
theorem c_int : CaY X (.type "int") bInt := caY fun Q φ H h xs vs z R r e q => by
  rcases xs with _ | ⟨d, _ | _⟩ <;> simp only [bInt] at e <;> try (cases e; done)
  · obtain ⟨v, rfl, rd⟩ := r.one
    cases rd <;> simp only [bInt] at e <;> try (cases e; done)
    · cases e; exact ⟨_, call_int1, .inr ⟨_, rfl, q φ H _ (Lat.refl _ _) R (.int _)⟩⟩
    · cases e; exact ⟨_, call_int1, .inl ⟨_, rfl, q φ H _ (Lat.refl _ _) R (.int _)⟩⟩
theorem c_abs : CaY X (.builtin "abs") bAbs := caY fun Q φ H h xs vs z R r e q => by
  rcases xs with _ | ⟨d, _ | _⟩ <;> simp only [bAbs] at e <;> try (cases e; done)
  · obtain ⟨v, rfl, rd⟩ := r.one
    cases rd <;> simp only [bAbs] at e <;> try (cases e; done)
    cases e; exact ⟨_, call_abs, _, rfl, q φ H _ (Lat.refl _ _) R (.int _)⟩
theorem c_all (hc : X.calm = true) : CaY X (.builtin "all") bAll := caY fun Q φ H h xs vs z R r e q => by
  rcases xs with _ | ⟨d, _ | _⟩ <;> simp only [bAll] at e <;> try (cases e; done)
  obtain ⟨v, rfl, rd⟩ := r.one
  cases e1 : (lstOf h d).bind bools with
  | none => rw [e1] at e; cases e
  | some bs =>
    rw [e1] at e
    cases e
    obtain ⟨ys, e2, e3⟩ := Option.bind_eq_some_iff.mp e1
    obtain ⟨a, us, rfl, hq, rr⟩ := lst_at R rd e2
    rw [rr.bools e3] at hq
    exact ⟨_, cr_all hc, a, bs, rfl, hq, q φ H _ (Lat.refl _ _) R (.bl _)⟩
theorem c_any (hc : X.calm = true) : CaY X (.builtin "any") bAny := caY fun Q φ H h xs vs z R r e q => by
  rcases xs with _ | ⟨d, _ | _⟩ <;> simp only [bAny] at e <;> try (cases e; done)
  obtain ⟨v, rfl, rd⟩ := r.one
  cases e1 : (lstOf h d).bind bools with
  | none => rw [e1] at e; cases e
  | some bs =>
    rw [e1] at e
    cases e
    obtain ⟨ys, e2, e3⟩ := Option.bind_eq_some_iff.mp e1
    obtain ⟨a, us, rfl, hq, rr⟩ := lst_at R rd e2
    rw [rr.bools e3] at hq
    exact ⟨_, cr_any hc, a, bs, rfl, hq, q φ H _ (Lat.refl _ _) R (.bl _)⟩
theorem c_sum (hc : X.calm = true) : CaY X (.builtin "sum") bSum := caY fun Q φ H h xs vs z R r e q => by
  rcases xs with _ | ⟨d, _ | _⟩ <;> simp only [bSum] at e <;> try (cases e; done)
  obtain ⟨v, rfl, rd⟩ := r.one
  cases e1 : (lstOf h d).bind intsOf with
  | none => rw [e1] at e; cases e
  | some bs =>
    rw [e1] at e
    cases e
    obtain ⟨ys, e2, e3⟩ := Option.bind_eq_some_iff.mp e1
    obtain ⟨a, us, rfl, hq, rr⟩ := lst_at R rd e2
    rw [rr.intsOf e3] at hq
    exact ⟨_, cr_sum hc, a, bs, rfl, hq, q φ H _ (Lat.refl _ _) R (.int _)⟩
theorem c_list : CaL X (.type "list") mList := caL fun Q φ H h xs vs z R r e q => by
  rcases xs with _ | ⟨d, _ | _⟩ <;> simp only [mList] at e <;> try (cases e; done)
  obtain ⟨v, rfl, rd⟩ := r.one
  obtain ⟨a, us, rfl, hq, rr⟩ := seq_at R rd e
  exact ⟨_, call_list_of, a, us, rfl, hq, fun l hl => q φ _ _ (Lat.new hl) (R.new hl) (fresh_new R hl rr)⟩
theorem c_tuple : CaY X (.type "tuple") bTuple := caY fun Q φ H h xs vs z R r e q => by
  rcases xs with _ | ⟨d, _ | _⟩ <;> simp only [bTuple] at e <;> try (cases e; done)
  · obtain ⟨v, rfl, rd⟩ := r.one
    have gen : (lstOf h d).map D.tup = some z → ∃ r, CallR X (.type "tuple") r ∧ r [v] H Q := fun e => by
      obtain ⟨ys, e1, rfl⟩ := Option.map_eq_some_iff.mp e
      obtain ⟨a, us, rfl, hq, rr⟩ := lst_at R rd e1
      exact ⟨_, call_tuple_of, a, us, rfl, .inl ⟨hq, fun l hl => q φ _ _ (Lat.new hl) (R.new hl) (.tup upd_same (RepL.mono (List.prefix_refl _) (Per.new hl) _ _ rr))⟩⟩
    cases d
    case tup xs =>
      simp only [bTuple] at e
      cases e
      cases rd with
      | tup hq rr => exact ⟨_, call_tuple_of, _, _, rfl, .inr ⟨SqT.of hq, q φ H _ (Lat.refl _ _) R (.tup hq rr)⟩⟩
    all_goals exact gen e
/-- f(..), f a built-in function by its name -/
theorem s_b {x : Str} {id : String} {p : Pos} {o : Hm → List D → Option D} (hc : CaY X (.builtin id) o) (hg : Gl X x) (hm : X.mg x = none) (hv : bootBuiltins x = some (.builtin id)) (ha : SA X cl W (e :: es) fa) (hn : x ≠ "__name__" := by decide) (hdb : (x == ("__debug__" : Str)) = false := by decide)
    (he : starEach (e :: es) X.env = (false, eval e X.env) :: starEach es X.env := by rfl) (hpl : (backTo pos (starEach es X.env)).any (·.1) = false := by rfl) : SE X cl W (.Call (.Name x p) (e :: es) [] pos) (eB o fa) := PE.of (pe_callB hc hg hm hv ha hn hdb he hpl) fun σ H Q p =>
  seq1 (k := fun xs h1 => ofO (o h1 xs) h1) p fun φ H1 h1 xs vs R r P => ⟨cl, fun c d H' => W c d σ H', φ, h1, xs, R, r, P⟩
theorem s_bT {x : Str} {id : String} {p : Pos} {o : Hm → List D → Option D} (hc : CaY X (.type id) o) (hg : Gl X x) (hm : X.mg x = none) (hv : bootBuiltins x = some (.type id)) (ha : SA X cl W (e :: es) fa) (hn : x ≠ "__name__" := by decide) (hdb : (x == ("__debug__" : Str)) = false := by decide)
    (he : starEach (e :: es) X.env = (false, eval e X.env) :: starEach es X.env := by rfl) (hpl : (backTo pos (starEach es X.env)).any (·.1) = false := by rfl) : SE X cl W (.Call (.Name x p) (e :: es) [] pos) (eB o fa) := PE.of (pe_callTy hc hg hm hv ha hn hdb he hpl) fun σ H Q p =>
  seq1 (k := fun xs h1 => ofO (o h1 xs) h1) p fun φ H1 h1 xs vs R r P => ⟨cl, fun c d H' => W c d σ H', φ, h1, xs, R, r, P⟩
theorem l_bT {x : Str} {id : String} {p : Pos} {o : Hm → List D → Option (List D)} (hc : CaL X (.type id) o) (hg : Gl X x) (hm : X.mg x = none) (hv : bootBuiltins x = some (.type id)) (ha : SA X cl W (e :: es) fa) (hn : x ≠ "__name__" := by decide) (hdb : (x == ("__debug__" : Str)) = false := by decide)
    (he : starEach (e :: es) X.env = (false, eval e X.env) :: starEach es X.env := by rfl) (hpl : (backTo pos (starEach es X.env)).any (·.1) = false := by rfl) : SL X cl W (.Call (.Name x p) (e :: es) [] pos) (lB o fa) := PE.of (pe_callTy hc hg hm hv ha hn hdb he hpl) fun σ H Q p =>
  seq1 (k := fun xs h1 => ofO (o h1 xs) h1) p fun φ H1 h1 xs vs R r P => ⟨cl, fun c d H' => W c d σ H', φ, h1, xs, R, r, P⟩
theorem l_b {x : Str} {id : String} {p : Pos} {o : Hm → List D → Option (List D)} (hc : CaL X (.builtin id) o) (hg : Gl X x) (hm : X.mg x = none) (hv : bootBuiltins x = some (.builtin id)) (ha : SA X cl W (e :: es) fa) (hn : x ≠ "__name__" := by decide) (hdb : (x == ("__debug__" : Str)) = false := by decide)
    (he : starEach (e :: es) X.env = (false, eval e X.env) :: starEach es X.env := by rfl) (hpl : (backTo pos (starEach es X.env)).any (·.1) = false := by rfl) : SL X cl W (.Call (.Name x p) (e :: es) [] pos) (lB o fa) := PE.of (pe_callB hc hg hm hv ha hn hdb he hpl) fun σ H Q p =>
  seq1 (k := fun xs h1 => ofO (o h1 xs) h1) p fun φ H1 h1 xs vs R r P => ⟨cl, fun c d H' => W c d σ H', φ, h1, xs, R, r, P⟩
end
end Y
end

section
set_option Elab.async false
set_option linter.all false
set_option maxRecDepth 100000
set_option maxHeartbeats 2000000
/-! YG: targets, loops, comprehensions, statements. -/
namespace Y
open PySem PySem.Spec PyProof.Rows L2

/-! ### targets -/
/-- all but the slots at is stand -/
def Chg (is : List Nat) (σ τ : L2.St) : Prop := τ.length = σ.length ∧ ∀ j, j ∉ is → τ[j]? = σ[j]?
theorem Chg.trans {is js : List Nat} {σ τ υ : L2.St} (a : Chg is σ τ) (b : Chg js τ υ) : Chg (is ++ js) σ υ :=
  ⟨b.1.trans a.1, fun j n => by rw [List.mem_append, not_or] at n; rw [b.2 j n.2, a.2 j n.1]⟩
theorem Chg.set {i : Nat} {o : Option V} (σ : L2.St) : Chg [i] σ (σ.set i o) := ⟨by simp, fun j n => by rw [List.getElem?_set_ne (fun e => n (by simp [e]))]⟩
theorem wipe_get (σ : L2.St) : ∀ (vs : List Nat) (j : Nat), j ∉ vs → (wipe σ vs)[j]? = σ[j]?
  | [], _, _ => rfl
  | v :: vs, j, n => by
    rw [List.mem_cons, not_or] at n
    show ((wipe σ vs).set v none)[j]? = _
    rw [List.getElem?_set_ne (Ne.symm n.1), wipe_get σ vs j n.2]
theorem wipe_in (σ : L2.St) : ∀ (vs : List Nat) (j : Nat), j ∈ vs → j < σ.length → (wipe σ vs)[j]? = some none
  | [], _, m, _ => by cases m
  | v :: vs, j, m, l => by
    show ((wipe σ vs).set v none)[j]? = _
    by_cases e : j = v
    · subst e
      rw [List.getElem?_set_self (by rw [wipe_length]; exact l)]
    · rw [List.getElem?_set_ne (Ne.symm e)]
      exact wipe_in σ vs j ((List.mem_cons.mp m).resolve_left e) l
theorem Chg.wipe {is vs : List Nat} {σ τ : L2.St} (c : Chg is σ τ) (h : ∀ i ∈ is, i ∈ vs) : wipe τ vs = L2.wipe σ vs := by
  apply List.ext_getElem?
  intro j
  by_cases m : j ∈ vs
  · by_cases l : j < σ.length
    · rw [wipe_in τ vs j m (by rw [c.1]; exact l), wipe_in σ vs j m l]
    · rw [List.getElem?_eq_none (by rw [wipe_length, c.1]; omega), List.getElem?_eq_none (by rw [wipe_length]; omega)]
  · rw [wipe_get τ vs j m, wipe_get σ vs j m]
    exact c.2 j fun i => m (h j i)
theorem wipe_wipe (σ : L2.St) (vs : List Nat) : wipe (wipe σ vs) vs = wipe σ vs := Chg.wipe (is := vs) ⟨wipe_length σ vs, fun j n => wipe_get σ vs j n⟩ fun _ h => h
def tGv (K : PySem.W.Frag) (g : Gv) (is : List Nat) : TG := fun v σ H Q => ∃ φ st d st1, SR K φ H st σ ∧ Rep K φ H d v ∧ g d st = some st1 ∧ ∀ τ, SR K φ H st1 τ → Chg is σ τ → Q τ H
def tGvs (K : PySem.W.Frag) (gs : List Gv) (is : List Nat) : TGs := fun vs σ H Q => ∃ φ st ds st1, SR K φ H st σ ∧ RepL K φ H ds vs ∧ gTs gs ds st = some st1 ∧ ∀ τ, SR K φ H st1 τ → Chg is σ τ → Q τ H
abbrev SG (X : Cx) (e : Expr) (g : Gv) (is : List Nat) : Prop := PG X e (tGv X.K g is)
theorem PG.of {X : Cx} {e : Expr} {t t' : TG} (h : PG X e t) (i : ∀ v σ H Q, t' v σ H Q → t v σ H Q) : PG X e t' := ⟨fun pins s σ H v u Q I r q => h.run pins s σ H v u Q I r (i v σ H Q q)⟩
theorem PGs.of {X : Cx} {e : List Expr} {t t' : TGs} (h : PGs X e t) (i : ∀ v σ H Q, t' v σ H Q → t v σ H Q) : PGs X e t' := ⟨fun pins s σ H v u Q I r q => h.run pins s σ H v u Q I r (i v σ H Q q)⟩
section
variable {X : Cx} {pos : Pos}
theorem g_n (i : Nat) {x : Str} (hN : X.N.Nodup) (hi : X.N[i]? = some x := by rfl) (hx : Loc X.env.scope x := by first | exact Or.inl rfl | exact Or.inr rfl) (hf : X.fn x = true ∨ X.env.scope.names.lookup x = some .local := by first | exact .inl rfl | exact .inr rfl | assumption) : SG X (.Name x pos) (gN i) [i] :=
  PG.of (pg_name hN hi hx hf) fun v σ H Q ⟨φ, st, d, st1, S, r, e, q⟩ => by
    simp only [gN, Option.some.injEq] at e
    subst e
    exact q _ (S.set i r) (Chg.set σ)
theorem gs_nil : PGs X [] (tGvs X.K [] []) := PGs.of pgs_nil fun vs σ H Q ⟨φ, st, ds, st1, S, r, e, q⟩ => by
  cases r with
  | nil =>
    simp only [gTs, Option.some.injEq] at e
    subst e
    exact ⟨rfl, q σ S ⟨rfl, fun _ _ => rfl⟩⟩
  | cons _ _ => simp [gTs] at e
theorem gs_cons {e : Expr} {es : List Expr} {g : Gv} {gs : List Gv} {is js : List Nat} (h1 : SG X e g is) (h2 : PGs X es (tGvs X.K gs js)) (hs : (assignEach (e :: es) X.env).map (·.2) = assign e X.env :: (assignEach es X.env).map (·.2) := by rfl) :
    PGs X (e :: es) (tGvs X.K (g :: gs) (is ++ js)) := PGs.of (pgs_cons h1 h2 hs) fun vs σ H Q ⟨φ, st, ds, st1, S, r, e, q⟩ => by
  cases r with
  | nil => simp [gTs] at e
  | @cons d v ds vs r1 r2 =>
    obtain ⟨st2, e1, e2⟩ := Option.bind_eq_some_iff.mp (show (g d st).bind (gTs gs ds) = some st1 from e)
    exact ⟨v, vs, rfl, φ, st, d, st2, S, r1, e1, fun τ S2 c2 => ⟨φ, st2, ds, st1, S2, r2, e2, fun υ S3 c3 => q υ S3 (c2.trans c3)⟩⟩
theorem gTs_len : ∀ {gs : List Gv} {ds : List D} {st st1 : Sl}, gTs gs ds st = some st1 → ds.length = gs.length
  | [], [], _, _, _ => rfl
  | [], _ :: _, _, _, h => by simp [gTs] at h
  | _ :: _, [], _, _, h => by simp [gTs] at h
  | g :: gs, d :: ds, st, st1, h => by
    obtain ⟨st2, _, e2⟩ := Option.bind_eq_some_iff.mp (show (g d st).bind (gTs gs ds) = some st1 from h)
    simp [gTs_len e2]
theorem g_tup {es : List Expr} {n : Nat} {gs : List Gv} {is : List Nat} (hc : X.calm = true) (h : PGs X es (tGvs X.K gs is)) (hn : (assignEach es X.env).length = gs.length := by rfl) (hst : (assignEach es X.env).findIdx? (·.1) = none := by rfl) :
    SG X (.Tuple es n pos) (gT gs) is := PG.of (pg_tup hc h hn hst) fun v σ H Q ⟨φ, st, d, st1, S, r, e, q⟩ => by
  cases r <;> simp only [gT] at e <;> try (cases e; done)
  rename_i a ds vs hq r _
  exact ⟨a, vs, rfl, SqT.of hq, by rw [← r.length]; exact gTs_len e, φ, st, ds, st1, S, r, e, q⟩
end

/-! ### what is walked -/
/-- a later state, where one's own lists may have changed -/
structure Wk (φ : List Addr) (H : Hp) (φ' : List Addr) (H' : Hp) : Prop where
  pre : φ <+: φ'
  per : Per H H'
theorem Lat.wk {φ φ' : List Addr} {H H' : Hp} (l : Lat φ H φ' H') : Wk φ H φ' H' := ⟨l.pre, l.per⟩
theorem Wk.refl (φ : List Addr) (H : Hp) : Wk φ H φ H := ⟨List.prefix_refl _, Per.refl _⟩
theorem Wk.trans {φ1 φ2 φ3 : List Addr} {H1 H2 H3 : Hp} (a : Wk φ1 H1 φ2 H2) (b : Wk φ2 H2 φ3 H3) : Wk φ1 H1 φ3 H3 := ⟨a.pre.trans b.pre, a.per.trans b.per⟩
def Drv (K : PySem.W.Frag) (φ1 : List Addr) (H1 : Hp) (J : It) (ds : List D) : Prop := ∀ φ H h, Wk φ1 H1 φ H → HR K φ H h →
  (∀ i d, ds[i]? = some d → J.go i H ∧ ∀ x H', J.yld i H x H' → Lat φ H φ H' ∧ HR K φ H' h ∧ Rep K φ H' d x) ∧ J.stop ds.length H
def DrvG (K : PySem.W.Frag) (φ1 : List Addr) (H1 : Hp) (G : Hm → Bool) (J : It) (ds : List D) : Prop := ∀ φ H h, Wk φ1 H1 φ H → HR K φ H h → G h = true →
  (∀ i d, ds[i]? = some d → J.go i H ∧ ∀ x H', J.yld i H x H' → Lat φ H φ H' ∧ HR K φ H' h ∧ Rep K φ H' d x) ∧ J.stop ds.length H
theorem Drv.g {K : PySem.W.Frag} {φ1 : List Addr} {H1 : Hp} {G : Hm → Bool} {J : It} {ds : List D} (d : Drv K φ1 H1 J ds) : DrvG K φ1 H1 G J ds := fun φ H h l r _ => d φ H h l r
def tI2 (K : PySem.W.Frag) (cl : Nat → Addr) (W : WX) (f : Iv2) : TI := fun σ H R => ∃ φ st h, SR K φ H st σ ∧ HR K φ H h ∧ match f st h with
  | .ok p h' => ∀ φ' H' J, Lat φ H φ' H' → HR K φ' H' h' → DrvG K φ' H' (gd p.1 p.2) J p.2 → R J H'
  | .ex e h' => ∀ φ' H' c d, Lat φ H φ' H' → HR K φ' H' h' → ER K cl φ' H' e c d → W c d σ H'
  | .bad => False
abbrev SI2 (X : Cx) (cl : Nat → Addr) (W : WX) (tg iter : Expr) (f : Iv2) : Prop := PI X tg iter (tI2 X.K cl W f)
def tI (K : PySem.W.Frag) (cl : Nat → Addr) (W : WX) (f : Iv) : TI := fun σ H R => ∃ φ st h, SR K φ H st σ ∧ HR K φ H h ∧ match f st h with
  | .ok ds h' => ∀ φ' H' J, Lat φ H φ' H' → HR K φ' H' h' → Drv K φ' H' J ds → R J H'
  | .ex e h' => ∀ φ' H' c d, Lat φ H φ' H' → HR K φ' H' h' → ER K cl φ' H' e c d → W c d σ H'
  | .bad => False
abbrev SI (X : Cx) (cl : Nat → Addr) (W : WX) (tg iter : Expr) (f : Iv) : Prop := PI X tg iter (tI X.K cl W f)
theorem PI.of {X : Cx} {tg e : Expr} {t t' : TI} (h : PI X tg e t) (i : ∀ σ H Q, t' σ H Q → t σ H Q) : PI X tg e t' := ⟨fun pins s σ H R I q => h.run pins s σ H R I (i σ H R q)⟩
section
variable {X : Cx} {cl : Nat → Addr} {W : WX} {tg e a b : Expr} {f : Ev} {fa : Av} {pos : Pos}
theorem seqI {γ δ : Type} {R1 : RT γ δ} {f : Sl → Hm → Rs γ} {k : γ → Hm → Rs (List D)} {σ : L2.St} {H : Hp} {R : It → Hp → Prop} {R' : δ → Hp → Prop} (p : tI X.K cl W (fun σ h => (f σ h).bind fun x h1 => k x h1) σ H R)
    (h : ∀ φ H1 h1 x v ds h2, HR X.K φ H1 h1 → R1 H φ H1 x v → k x h1 = .ok ds h2 → (∀ J, HR X.K φ H1 h2 → Drv X.K φ H1 J ds → R J H1) → R' v H1) (hk : ∀ x h1, (∃ a h2, k x h1 = .ok a h2) ∨ k x h1 = .bad) : tG X.K cl W R1 f σ H R' := by
  obtain ⟨φ, st, h0, S, R0, P⟩ := p
  refine ⟨φ, st, h0, S, R0, ?_⟩
  cases e : f st h0 with
  | bad => simp only [e, Rs.bind] at P
  | ex _ _ => simp only [e, Rs.bind] at P; exact P
  | ok x h1 =>
    simp only [e, Rs.bind] at P
    intro φ1 H1 v l1 r1 q1
    rcases hk x h1 with ⟨ds, h2, e2⟩ | e2
    · rw [e2] at P
      exact h φ1 H1 h1 x v ds h2 r1 q1 e2 fun J r2 dv => P φ1 H1 J l1 r2 dv
    · rw [e2] at P; exact P.elim
theorem drv_tup {K : PySem.W.Frag} {φ : List Addr} {H : Hp} {p : Addr} {ds : List D} {vs : List V} (hq : SqT K H p vs) (r : RepL K φ H ds vs) : Drv K φ H (Itt K p) ds := fun φ' H' h l R => by
  have hq' := SqT.per hq l.per
  have r' := RepL.mono l.pre l.per _ _ r
  refine ⟨fun i d e => ?_, vs, hq', by rw [r'.length]; exact Nat.le_refl _⟩
  obtain ⟨v, h1, h2⟩ := r'.get e
  refine ⟨⟨vs, v, hq', h1⟩, fun x H2 y => ?_⟩
  obtain ⟨rfl, y⟩ := y
  have ev := y vs hq'
  rw [h1] at ev
  cases ev
  exact ⟨Lat.refl _ _, R, h2⟩
theorem drv_lst {K : PySem.W.Frag} {φ : List Addr} {H : Hp} {p : Addr} {ds : List D} {vs : List V} (hq : ∀ H', Per H H' → SqL K H' p vs) (r : RepL K φ H ds vs) : Drv K φ H (Itl K p) ds := fun φ' H' h l R => by
  have hq' := hq H' l.per
  have r' := RepL.mono l.pre l.per _ _ r
  refine ⟨fun i d e => ?_, vs, hq', by rw [r'.length]; exact Nat.le_refl _⟩
  obtain ⟨v, h1, h2⟩ := r'.get e
  refine ⟨⟨vs, v, hq', h1⟩, fun x H2 y => ?_⟩
  obtain ⟨rfl, y⟩ := y
  have ev := y vs hq'
  rw [h1] at ev
  cases ev
  exact ⟨Lat.refl _ _, R, h2⟩
theorem i_tup (ha : SE X cl W e f) : SI X cl W tg e (iT f) := PI.of (pi_tup ha) fun σ H R p =>
  seqI (R1 := RR X.K) (k := fun x h1 => match x with | .tup xs => .ok xs h1 | _ => .bad) p (fun φ H1 h1 x v ds h2 R1 r e q => by
    cases x <;> simp at e
    obtain ⟨rfl, rfl⟩ := e
    cases r with
    | tup hq rr => exact ⟨_, rfl, ⟨_, SqT.of hq⟩, q _ R1 (drv_tup (SqT.of hq) rr)⟩) fun x h1 => by cases x <;> simp
theorem i_lst (ha : SE X cl W e f) : SI X cl W tg e (iF f) := PI.of (pi_list ha) fun σ H R p =>
  seqI (R1 := RR X.K) (k := fun x h1 => match x with | .fl xs => .ok xs h1 | .sq xs => .ok xs h1 | _ => .bad) p (fun φ H1 h1 x v ds h2 R1 r e q => by
    cases x <;> simp at e
    · obtain ⟨rfl, rfl⟩ := e
      cases r with
      | fl hq rr => exact ⟨_, rfl, ⟨_, .inl (.inr ⟨_, hq⟩)⟩, q _ R1 (drv_lst (fun H' p => .inl (.inr ⟨_, p.frz _ _ _ hq⟩)) rr)⟩
    · obtain ⟨rfl, rfl⟩ := e
      cases r with
      | sq hq rr => exact ⟨_, rfl, ⟨_, hq.sq⟩, q _ R1 (drv_lst (fun H' p => (hq.per p).sq) rr)⟩) fun x h1 => by cases x <;> simp
theorem drv_rng {K : PySem.W.Frag} {φ : List Addr} {H : Hp} (lo : Int) (n : Nat) : Drv K φ H (Itr lo n) (rangeD lo n) := fun φ' H' h l R => by
  refine ⟨fun i d e => ?_, by show n ≤ (rangeD lo n).length; simp [rangeD]⟩
  simp only [rangeD, List.getElem?_map] at e
  have hi : i < n := by
    by_cases hi : i < n
    · exact hi
    · rw [List.getElem?_eq_none (by simp; omega)] at e; cases e
  rw [List.getElem?_range hi] at e
  simp at e
  subst e
  refine ⟨hi, fun x H2 y => ?_⟩
  obtain ⟨rfl, rfl⟩ := y
  exact ⟨Lat.refl _ _, R, .int _⟩
theorem log2_lt {n k : Nat} (h : n.log2 < k) : n < 2 ^ k := by
  by_cases e : n = 0
  · subst e; exact Nat.two_pow_pos k
  · exact (Nat.log2_lt e).mp h
theorem small_of {i : Int} (h : small i = true) : -(2 ^ 62) ≤ i ∧ i < 2 ^ 62 := by
  simp only [small, decide_eq_true_eq] at h
  have := log2_lt h
  omega
theorem i_r1 {p : Pos} (hg : Gl X "range") (hm : X.mg "range" = none) (ha : SA X cl W [a] fa) (hs : starEach [a] X.env = [(false, eval a X.env)] := by rfl) : SI X cl W tg (.Call (.Name "range" p) [a] [] pos) (iR1 fa) := PI.of (pi_range1 hg hm ha hs) fun σ H R p =>
  seqI (R1 := RL X.K) (k := fun xs h1 => match xs with | [.int j] => if small j then .ok (rangeD 0 j.toNat) h1 else .bad | _ => .bad) p (fun φ H1 h1 x v ds h2 R1 r e q => by
    split at e
    · split at e
      · rename_i j hj
        cases e
        obtain ⟨w, rfl, rw'⟩ := RepL.one r
        cases rw'
        exact ⟨j, rfl, (small_of hj).1, (small_of hj).2, q _ R1 (drv_rng 0 _)⟩
      · cases e
    · cases e) fun x h1 => by
      split
      · split <;> simp
      · simp
theorem i_r2 {p : Pos} (hg : Gl X "range") (hm : X.mg "range" = none) (ha : SA X cl W [a, b] fa) (hs : starEach [a, b] X.env = [(false, eval a X.env), (false, eval b X.env)] := by rfl) (hs2 : starEach [b] X.env = [(false, eval b X.env)] := by rfl) :
    SI X cl W tg (.Call (.Name "range" p) [a, b] [] pos) (iR2 fa) := PI.of (pi_range2 hg hm ha hs hs2) fun σ H R p =>
  seqI (R1 := RL X.K) (k := fun xs h1 => match xs with | [.int i, .int j] => if small i && small j then .ok (rangeD i (j - i).toNat) h1 else .bad | _ => .bad) p (fun φ H1 h1 x v ds h2 R1 r e q => by
    split at e
    · split at e
      · rename_i i j hj
        cases e
        rw [Bool.and_eq_true] at hj
        cases r with
        | cons r1 r2 =>
          obtain ⟨w, rfl, rw'⟩ := RepL.one r2
          cases rw'
          cases r1
          exact ⟨i, j, rfl, ⟨(small_of hj.1).1, (small_of hj.1).2, (small_of hj.2).1, (small_of hj.2).2⟩, q _ R1 (drv_rng i _)⟩
      · cases e
    · cases e) fun x h1 => by
      split
      · split <;> simp
      · simp
end

/-! ### for, while -/
section
variable {X : Cx} {cl : Nat → Addr} {W : WX} {tg iter c : Expr} {it : Iv} {it2 : Iv2} {g : Gv} {is : List Nat} {b : Sv} {t : Tv} {body : List Stmt} {pos : Pos}
theorem s_forX (hp : PassesOwn (model X.prog X.w) X.A X.env X.xe) (hc : X.calm = true) (hi : SI2 X cl W tg iter it2) (hg : SG X tg g is) (hb : SSs X cl W body b) (hs : ∀ x, foldedSetIterable iter X.env x = pure x := by intro _; rfl) :
    SS X cl W (.For tg iter body [] pos) (sForX it2 g b) := PS.of (ps_for hp hc hi hg hb hs) fun D σ H p => by
  obtain ⟨φ, st, h0, S, R0, P⟩ := p
  refine ⟨φ, st, h0, S, R0, ?_⟩
  unfold sForX at P
  cases e : it2 st h0 with
  | bad => simp only [e, Rs.out] at P; exact P
  | ex ex1 h1 =>
    simp only [e, Rs.out] at P
    intro φ' H' c d l r er
    exact P φ' H' c d σ l r (S.mono l) er
  | ok p h1 =>
    obtain ⟨src, ds⟩ := p
    simp only [e, Rs.out] at P
    intro φ1 H1 J l1 r1 dv
    dsimp only at dv
    generalize gd src ds = G at *
    refine ⟨fun i m σ2 H2 => m = ds.length - i ∧ i ≤ ds.length ∧ ∃ φ2 st2 h2, Lat φ1 H1 φ2 H2 ∧ SR X.K φ2 H2 st2 σ2 ∧ HR X.K φ2 H2 h2 ∧ PostS X.K cl φ2 H2 (forG G g b (ds.drop i) st2 h2) D W,
      ⟨_, rfl, Nat.zero_le _, φ1, st, h1, Lat.refl _ _, S.mono l1, r1, P.lat l1⟩, ?_⟩
    rintro i m σ2 H2 ⟨rfl, hi, φ2, st2, h2, l2, S2, r2, P2⟩
    by_cases lt : i < ds.length
    · rw [List.drop_eq_getElem_cons lt] at P2
      simp only [forG] at P2
      by_cases hG : G h2 = true
      case neg => rw [if_neg hG] at P2; exact P2.elim
      rw [if_pos hG] at P2
      obtain ⟨d1, d2⟩ := dv φ2 H2 h2 l2.wk r2 hG
      obtain ⟨go, yl⟩ := d1 i ds[i] (List.getElem?_eq_getElem lt)
      refine .inr ⟨go, fun σ' H' => ∃ φ3 st3 h3, Lat φ1 H1 φ3 H' ∧ SR X.K φ3 H' st3 σ' ∧ HR X.K φ3 H' h3 ∧ PostS X.K cl φ3 H' (forG G g b (ds.drop (i + 1)) st3 h3) D W, fun σ' H' n => ⟨ds.length - (i + 1), by omega, rfl, lt, n⟩, fun x H3 y => ?_⟩
      obtain ⟨l3, r3, rx⟩ := yl x H3 y
      cases e2 : g ds[i] st2 with
      | none => rw [e2] at P2; exact P2.elim
      | some st3 =>
        rw [e2] at P2
        refine ⟨φ2, st2, ds[i], st3, S2.mono l3, rx, e2, fun τ S3 _ => ⟨φ2, st3, h2, S3, r3, ?_⟩⟩
        have P3 := P2.lat l3
        have L := l2.trans l3
        simp only at P3
        cases e3 : b st3 h2 with
        | nx σ4 h4 =>
          simp only [e3] at P3
          exact fun φ' H' τ' l r s => ⟨φ', σ4, h4, L.trans l, s, r, P3.lat l⟩
        | ct σ4 h4 =>
          simp only [e3] at P3
          exact fun φ' H' τ' l r s => ⟨φ', σ4, h4, L.trans l, s, r, P3.lat l⟩
        | bk σ4 h4 => simp only [e3] at P3; exact P3
        | rt d h4 => simp only [e3] at P3; exact P3
        | rl d h4 => simp only [e3] at P3; exact P3
        | ex d σ4 h4 => simp only [e3] at P3; exact P3
        | bad => simp only [e3] at P3; exact P3
    · have ei : i = ds.length := by omega
      subst ei
      rw [List.drop_length] at P2
      simp only [forG] at P2
      by_cases hG : G h2 = true
      case neg => rw [if_neg hG] at P2; exact P2.elim
      rw [if_pos hG] at P2
      obtain ⟨d1, d2⟩ := dv φ2 H2 h2 l2.wk r2 hG
      exact .inl ⟨d2, P2 φ2 H2 σ2 (Lat.refl _ _) r2 S2⟩
theorem s_for (hp : PassesOwn (model X.prog X.w) X.A X.env X.xe) (hc : X.calm = true) (hi : SI X cl W tg iter it) (hg : SG X tg g is) (hb : SSs X cl W body b) (hs : ∀ x, foldedSetIterable iter X.env x = pure x := by intro _; rfl) :
    SS X cl W (.For tg iter body [] pos) (sFor it g b) := PS.of (ps_for hp hc hi hg hb hs) fun D σ H p => by
  obtain ⟨φ, st, h0, S, R0, P⟩ := p
  refine ⟨φ, st, h0, S, R0, ?_⟩
  unfold sFor at P
  cases e : it st h0 with
  | bad => simp only [e, Rs.out] at P; exact P
  | ex ex1 h1 =>
    simp only [e, Rs.out] at P
    intro φ' H' c d l r er
    exact P φ' H' c d σ l r (S.mono l) er
  | ok ds h1 =>
    simp only [e, Rs.out] at P
    intro φ1 H1 J l1 r1 dv
    refine ⟨fun i m σ2 H2 => m = ds.length - i ∧ i ≤ ds.length ∧ ∃ φ2 st2 h2, Lat φ1 H1 φ2 H2 ∧ SR X.K φ2 H2 st2 σ2 ∧ HR X.K φ2 H2 h2 ∧ PostS X.K cl φ2 H2 (forL g b (ds.drop i) st2 h2) D W,
      ⟨_, rfl, Nat.zero_le _, φ1, st, h1, Lat.refl _ _, S.mono l1, r1, P.lat l1⟩, ?_⟩
    rintro i m σ2 H2 ⟨rfl, hi, φ2, st2, h2, l2, S2, r2, P2⟩
    obtain ⟨d1, d2⟩ := dv φ2 H2 h2 l2.wk r2
    by_cases lt : i < ds.length
    · obtain ⟨go, yl⟩ := d1 i ds[i] (List.getElem?_eq_getElem lt)
      refine .inr ⟨go, fun σ' H' => ∃ φ3 st3 h3, Lat φ1 H1 φ3 H' ∧ SR X.K φ3 H' st3 σ' ∧ HR X.K φ3 H' h3 ∧ PostS X.K cl φ3 H' (forL g b (ds.drop (i + 1)) st3 h3) D W, fun σ' H' n => ⟨ds.length - (i + 1), by omega, rfl, lt, n⟩, fun x H3 y => ?_⟩
      obtain ⟨l3, r3, rx⟩ := yl x H3 y
      rw [List.drop_eq_getElem_cons lt] at P2
      simp only [forL] at P2
      cases e2 : g ds[i] st2 with
      | none => rw [e2] at P2; exact P2.elim
      | some st3 =>
        rw [e2] at P2
        refine ⟨φ2, st2, ds[i], st3, S2.mono l3, rx, e2, fun τ S3 _ => ⟨φ2, st3, h2, S3, r3, ?_⟩⟩
        have P3 := P2.lat l3
        have L := l2.trans l3
        simp only at P3
        cases e3 : b st3 h2 with
        | nx σ4 h4 =>
          simp only [e3] at P3
          exact fun φ' H' τ' l r s => ⟨φ', σ4, h4, L.trans l, s, r, P3.lat l⟩
        | ct σ4 h4 =>
          simp only [e3] at P3
          exact fun φ' H' τ' l r s => ⟨φ', σ4, h4, L.trans l, s, r, P3.lat l⟩
        | bk σ4 h4 => simp only [e3] at P3; exact P3
        | rt d h4 => simp only [e3] at P3; exact P3
        | rl d h4 => simp only [e3] at P3; exact P3
        | ex d σ4 h4 => simp only [e3] at P3; exact P3
        | bad => simp only [e3] at P3; exact P3
    · have ei : i = ds.length := by omega
      subst ei
      rw [List.drop_length] at P2
      exact .inl ⟨d2, P2 φ2 H2 σ2 (Lat.refl _ _) r2 S2⟩
theorem s_while (hp : PassesOwn (model X.prog X.w) X.A X.env X.xe) (hc : ST X cl W c t) (hb : SSs X cl W body b) : SS X cl W (.While c body [] pos) (sWhile t b) := PS.of (ps_while hp hc hb) fun D σ H p => by
  obtain ⟨φ, st, h0, S, R0, P⟩ := p
  refine ⟨fun m σ2 H2 => ∃ φ2 st2 h2, SR X.K φ2 H2 st2 σ2 ∧ HR X.K φ2 H2 h2 ∧ PostS X.K cl φ2 H2 (whileL t b m st2 h2) D W, ⟨_, φ, st, h0, S, R0, P⟩, ?_⟩
  rintro m σ2 H2 ⟨φ2, st2, h2, S2, r2, P2⟩
  cases m with
  | zero => exact P2.elim
  | succ m =>
    refine ⟨φ2, st2, h2, S2, r2, ?_⟩
    simp only [whileL] at P2
    cases e : t st2 h2 with
    | bad => simp only [e] at P2; exact P2
    | ex ex1 h1 =>
      simp only [e] at P2
      intro φ' H' c d l r er
      exact P2 φ' H' c d σ2 l r (S2.mono l) er
    | ok c3 h3 =>
      simp only [e] at P2
      intro φ3 H3 c4 l3 r3 ec
      cases (show c3 = c4 from ec)
      have P3 := P2.lat l3
      cases c3 with
      | false => exact P3 φ3 H3 σ2 (Lat.refl _ _) r3 (S2.mono l3)
      | true =>
        rw [if_pos rfl]
        rw [if_pos rfl] at P3
        refine ⟨fun σ' H' => ∃ φ2 st2 h2, SR X.K φ2 H' st2 σ' ∧ HR X.K φ2 H' h2 ∧ PostS X.K cl φ2 H' (whileL t b m st2 h2) D W, fun σ' H' n => ⟨m, Nat.lt_succ_self _, n⟩, φ3, st2, h3, S2.mono l3, r3, ?_⟩
        cases e3 : b st2 h3 with
        | nx σ4 h4 =>
          simp only [e3] at P3
          exact fun φ' H' τ' l r s => ⟨φ', σ4, h4, s, r, P3.lat l⟩
        | ct σ4 h4 =>
          simp only [e3] at P3
          exact fun φ' H' τ' l r s => ⟨φ', σ4, h4, s, r, P3.lat l⟩
        | bk σ4 h4 => simp only [e3] at P3; exact P3
        | rt d h4 => simp only [e3] at P3; exact P3
        | rl d h4 => simp only [e3] at P3; exact P3
        | ex d σ4 h4 => simp only [e3] at P3; exact P3
        | bad => simp only [e3] at P3; exact P3
end

/-! ### comprehensions -/
abbrev W0 : WX := fun _ _ _ _ => False
abbrev STs (X : Cx) (cl : Nat → Addr) (W : WX) (es : List Expr) (f : Tv) : Prop := PTs X es (tG X.K cl W RBool f)
section
variable {X : Cx} {cl : Nat → Addr} {W : WX} {elt tg iter c : Expr} {ifs : List Expr} {it : Iv} {it2 : Iv2} {g : Gv} {is : List Nat} {t : Tv} {f : Ev} {scope : Scope} {own : List (Str × Nat)} {pos : Pos}
theorem ts_nil : STs X cl W [] tYes := ⟨fun pins s σ H Q I ⟨φ, st, h0, S, R, P⟩ => pts_nil.run pins s σ H Q I (P.val R rfl)⟩
theorem ts_one (h : ST X cl W c t) : STs X cl W [c] t := pts_one h
theorem Lat.tmp {φ0 φ : List Addr} {H0 H : Hp} {D : Addr} {u v : HO} (l : Lat φ0 H0 φ H) (n : H0 D = none) (e : H D = some u) (m : mutO u = true) : Lat φ0 H0 φ (upd H D v) :=
  ⟨l.pre, l.per.trans (Per.wr e m), fun b o q w => by rw [upd_ne (ne_of_none q n)]; exact l.keep b o q w, l.fresh⟩
theorem comp_goX (his : ∀ i ∈ is, i ∈ own.map (·.2)) {σ : L2.St} {H : Hp} {Q : VK} (p : tG X.K cl W (Fresh X.K) (lCompX it2 g t f (own.map (·.2))) σ H Q) :
    tLc (tI2 X.K cl W it2) (tGv X.K g is) (tG X.K cl W0 RBool t) (tG X.K cl W0 (RR X.K) f) (own.map (·.2)) σ H Q := by
  obtain ⟨φ, st, h0, S, R0, P⟩ := p
  refine ⟨φ, st, h0, S, R0, ?_⟩
  unfold lCompX at P
  cases e : it2 st h0 with
  | bad => simp only [e, Rs.bind] at P; exact P
  | ex ex1 h1 => simp only [e, Rs.bind] at P; exact P
  | ok p h1 =>
    obtain ⟨src, ds⟩ := p
    simp only [e, Rs.bind] at P
    intro φ1 H1 J l1 r1 dv D hD
    dsimp only at dv
    generalize gd src ds = G at *
    -- what comes out
    cases e1 : compG G g t f (unset st (own.map (·.2))) ds h1 with
    | bad => rw [e1] at P; exact P.elim
    | ex ex1 h2 =>
      -- nothing raises within
      exfalso
      have no : ∀ (ds : List Y.D) (h : Hm) ex1 h2, compG G g t f (unset st (own.map (·.2))) ds h ≠ .ex ex1 h2 := by
        intro ds
        induction ds with
        | nil => intro h ex1 h2 q; simp only [compG] at q; split at q <;> cases q
        | cons d ds ih =>
          intro h ex1 h2 q
          simp only [compG] at q
          split at q
          case isFalse => cases q
          split at q
          · cases q
          · rename_i σ1 _
            cases a1 : t σ1 h with
            | bad => simp [a1, Rs.bindN] at q
            | ex _ _ => simp [a1, Rs.bindN] at q
            | ok c1 h3 =>
              simp only [a1, Rs.bindN] at q
              split at q
              · cases a2 : f σ1 h3 with
                | bad => simp [a2] at q
                | ex _ _ => simp [a2] at q
                | ok y h4 =>
                  simp only [a2] at q
                  cases a3 : compG G g t f (unset st (own.map (·.2))) ds h4 <;> simp [a3] at q
              · exact ih h3 ex1 h2 q
      exact no _ _ _ _ e1
    | ok res hf =>
      rw [e1] at P
      simp only at P
      split at P
      · rename_i hlen
        have nD1 : D ∉ φ1 := r1.notin hD
        have nD0 : H D = none := l1.gone nD1 hD
        refine ⟨fun i m H2 => m = ds.length - i ∧ i ≤ ds.length ∧ ∃ φ2 h2 acc accV ys, Lat φ1 H1 φ2 H2 ∧ HR X.K φ2 H2 h2 ∧ D ∉ φ2 ∧ H2 D = some (.lst accV) ∧ RepL X.K φ2 H2 acc accV ∧ compG G g t f (unset st (own.map (·.2))) (ds.drop i) h2 = .ok ys hf ∧ acc ++ ys = res,
          ⟨_, rfl, Nat.zero_le _, φ1, h1, [], [], res, Lat.new hD, r1.new hD, nD1, upd_same, .nil, e1, rfl⟩, ?_⟩
        rintro i m H2 ⟨rfl, hi, φ2, h2, acc, accV, ys, l2, r2, nD2, eD, ra, ec, er⟩
        by_cases lt : i < ds.length
        · rw [List.drop_eq_getElem_cons lt] at ec
          simp only [compG] at ec
          by_cases hG : G h2 = true
          case neg => rw [if_neg hG] at ec; cases ec
          rw [if_pos hG] at ec
          obtain ⟨d1, d2⟩ := dv φ2 H2 h2 l2.wk r2 hG
          obtain ⟨go, yl⟩ := d1 i ds[i] (List.getElem?_eq_getElem lt)
          refine .inr ⟨go, fun H' => ∃ φ2 h2 acc accV ys, Lat φ1 H1 φ2 H' ∧ HR X.K φ2 H' h2 ∧ D ∉ φ2 ∧ H' D = some (.lst accV) ∧ RepL X.K φ2 H' acc accV ∧ compG G g t f (unset st (own.map (·.2))) (ds.drop (i + 1)) h2 = .ok ys hf ∧ acc ++ ys = res,
            fun H' n => ⟨ds.length - (i + 1), by omega, rfl, lt, n⟩, fun x H3 y => ?_⟩
          obtain ⟨l3, r3, rx⟩ := yl x H3 y
          cases e2 : g ds[i] (unset st (own.map (·.2))) with
          | none => rw [e2] at ec; cases ec
          | some st3 =>
            rw [e2] at ec
            have L3 := l2.trans l3
            have S3 : SR X.K φ2 H3 (unset st (own.map (·.2))) (wipe σ (own.map (·.2))) := (S.mono (l1.trans L3)).unset _
            refine ⟨φ2, _, ds[i], st3, S3, rx, e2, fun τ S4 ch => ⟨by rw [ch.wipe his, wipe_wipe], φ2, st3, h2, S4, r3, ?_⟩⟩
            simp only at ec
            cases e3 : t st3 h2 with
            | bad => simp [e3, Rs.bindN] at ec
            | ex _ _ => simp [e3, Rs.bindN] at ec
            | ok c1 h4 =>
              simp only [e3, Rs.bindN] at ec
              intro φ4 H4 c2 l4 r4 ecc
              cases (show c1 = c2 from ecc)
              have L4 := L3.trans l4
              have eD4 : H4 D = some (.lst accV) := (l3.trans l4).keep D _ eD nD2
              have nD4 : D ∉ φ4 := (l3.trans l4).out eD nD2
              have ra4 := RepL.mono (l3.trans l4).pre (l3.trans l4).per _ _ ra
              cases c1 with
              | false =>
                rw [if_neg Bool.false_ne_true]
                rw [if_neg Bool.false_ne_true] at ec
                exact ⟨φ4, h4, acc, accV, ys, L4, r4, nD4, eD4, ra4, ec, er⟩
              | true =>
                rw [if_pos rfl]
                rw [if_pos rfl] at ec
                refine ⟨φ4, st3, h4, S4.mono l4, r4, ?_⟩
                cases e5 : f st3 h4 with
                | bad => simp [e5] at ec
                | ex _ _ => simp [e5] at ec
                | ok y1 h5 =>
                  simp only [e5] at ec
                  intro φ5 H5 yv l5 r5 ry
                  cases e6 : compG G g t f (unset st (own.map (·.2))) (ds.drop (i + 1)) h5 with
                  | bad => simp [e6] at ec
                  | ex _ _ => simp [e6] at ec
                  | ok ys1 h6 =>
                    simp only [e6, Rs.ok.injEq] at ec
                    obtain ⟨ec1, ec2⟩ := ec
                    subst ec2
                    subst ec1
                    have eD5 : H5 D = some (.lst accV) := l5.keep D _ eD4 nD4
                    have ra5 := RepL.mono l5.pre l5.per _ _ ra4
                    refine ⟨accV, eD5, ?_, φ5, h5, acc ++ [y1], accV ++ [yv], ys1, Lat.tmp (L4.trans l5) hD eD5 rfl, r5.out (l5.out eD4 nD4) eD5 rfl, l5.out eD4 nD4, upd_same, ?_, e6, by simp [← er]⟩
                    · have := congrArg List.length er
                      simp at this
                      rw [← ra.length, ← line_eq]
                      omega
                    · exact RepL.mono (List.prefix_refl _) (Per.wr eD5 rfl) _ _ (ra5.append (.cons ry .nil))
        · have ei : i = ds.length := by omega
          subst ei
          rw [List.drop_length] at ec
          simp only [compG] at ec
          by_cases hG : G h2 = true
          case neg => rw [if_neg hG] at ec; cases ec
          rw [if_pos hG] at ec
          obtain ⟨d1, d2⟩ := dv φ2 H2 h2 l2.wk r2 hG
          simp only [Rs.ok.injEq] at ec
          obtain ⟨rfl, rfl⟩ := ec
          rw [List.append_nil] at er
          subst er
          exact .inl ⟨d2, P φ2 H2 _ (l1.trans l2) r2 ⟨D, accV, rfl, nD0, nD2, eD, ra⟩⟩
      · exact P.elim
theorem comp_go (his : ∀ i ∈ is, i ∈ own.map (·.2)) {σ : L2.St} {H : Hp} {Q : VK} (p : tG X.K cl W (Fresh X.K) (lComp it g t f (own.map (·.2))) σ H Q) :
    tLc (tI X.K cl W it) (tGv X.K g is) (tG X.K cl W0 RBool t) (tG X.K cl W0 (RR X.K) f) (own.map (·.2)) σ H Q := by
  obtain ⟨φ, st, h0, S, R0, P⟩ := p
  refine ⟨φ, st, h0, S, R0, ?_⟩
  unfold lComp at P
  cases e : it st h0 with
  | bad => simp only [e, Rs.bind] at P; exact P
  | ex ex1 h1 => simp only [e, Rs.bind] at P; exact P
  | ok ds h1 =>
    simp only [e, Rs.bind] at P
    intro φ1 H1 J l1 r1 dv D hD
    -- what comes out
    cases e1 : compL g t f (unset st (own.map (·.2))) ds h1 with
    | bad => rw [e1] at P; exact P.elim
    | ex ex1 h2 =>
      -- nothing raises within
      exfalso
      have no : ∀ (ds : List Y.D) (h : Hm) ex1 h2, compL g t f (unset st (own.map (·.2))) ds h ≠ .ex ex1 h2 := by
        intro ds
        induction ds with
        | nil => intro h ex1 h2 q; simp [compL] at q
        | cons d ds ih =>
          intro h ex1 h2 q
          simp only [compL] at q
          split at q
          · cases q
          · rename_i σ1 _
            cases a1 : t σ1 h with
            | bad => simp [a1, Rs.bindN] at q
            | ex _ _ => simp [a1, Rs.bindN] at q
            | ok c1 h3 =>
              simp only [a1, Rs.bindN] at q
              split at q
              · cases a2 : f σ1 h3 with
                | bad => simp [a2] at q
                | ex _ _ => simp [a2] at q
                | ok y h4 =>
                  simp only [a2] at q
                  cases a3 : compL g t f (unset st (own.map (·.2))) ds h4 <;> simp [a3] at q
              · exact ih h3 ex1 h2 q
      exact no _ _ _ _ e1
    | ok res hf =>
      rw [e1] at P
      simp only at P
      split at P
      · rename_i hlen
        have nD1 : D ∉ φ1 := r1.notin hD
        have nD0 : H D = none := l1.gone nD1 hD
        refine ⟨fun i m H2 => m = ds.length - i ∧ i ≤ ds.length ∧ ∃ φ2 h2 acc accV ys, Lat φ1 H1 φ2 H2 ∧ HR X.K φ2 H2 h2 ∧ D ∉ φ2 ∧ H2 D = some (.lst accV) ∧ RepL X.K φ2 H2 acc accV ∧ compL g t f (unset st (own.map (·.2))) (ds.drop i) h2 = .ok ys hf ∧ acc ++ ys = res,
          ⟨_, rfl, Nat.zero_le _, φ1, h1, [], [], res, Lat.new hD, r1.new hD, nD1, upd_same, .nil, e1, rfl⟩, ?_⟩
        rintro i m H2 ⟨rfl, hi, φ2, h2, acc, accV, ys, l2, r2, nD2, eD, ra, ec, er⟩
        obtain ⟨d1, d2⟩ := dv φ2 H2 h2 l2.wk r2
        by_cases lt : i < ds.length
        · obtain ⟨go, yl⟩ := d1 i ds[i] (List.getElem?_eq_getElem lt)
          refine .inr ⟨go, fun H' => ∃ φ2 h2 acc accV ys, Lat φ1 H1 φ2 H' ∧ HR X.K φ2 H' h2 ∧ D ∉ φ2 ∧ H' D = some (.lst accV) ∧ RepL X.K φ2 H' acc accV ∧ compL g t f (unset st (own.map (·.2))) (ds.drop (i + 1)) h2 = .ok ys hf ∧ acc ++ ys = res,
            fun H' n => ⟨ds.length - (i + 1), by omega, rfl, lt, n⟩, fun x H3 y => ?_⟩
          obtain ⟨l3, r3, rx⟩ := yl x H3 y
          rw [List.drop_eq_getElem_cons lt] at ec
          simp only [compL] at ec
          cases e2 : g ds[i] (unset st (own.map (·.2))) with
          | none => rw [e2] at ec; cases ec
          | some st3 =>
            rw [e2] at ec
            have L3 := l2.trans l3
            have S3 : SR X.K φ2 H3 (unset st (own.map (·.2))) (wipe σ (own.map (·.2))) := (S.mono (l1.trans L3)).unset _
            refine ⟨φ2, _, ds[i], st3, S3, rx, e2, fun τ S4 ch => ⟨by rw [ch.wipe his, wipe_wipe], φ2, st3, h2, S4, r3, ?_⟩⟩
            simp only at ec
            cases e3 : t st3 h2 with
            | bad => simp [e3, Rs.bindN] at ec
            | ex _ _ => simp [e3, Rs.bindN] at ec
            | ok c1 h4 =>
              simp only [e3, Rs.bindN] at ec
              intro φ4 H4 c2 l4 r4 ecc
              cases (show c1 = c2 from ecc)
              have L4 := L3.trans l4
              have eD4 : H4 D = some (.lst accV) := (l3.trans l4).keep D _ eD nD2
              have nD4 : D ∉ φ4 := (l3.trans l4).out eD nD2
              have ra4 := RepL.mono (l3.trans l4).pre (l3.trans l4).per _ _ ra
              cases c1 with
              | false =>
                rw [if_neg Bool.false_ne_true]
                rw [if_neg Bool.false_ne_true] at ec
                exact ⟨φ4, h4, acc, accV, ys, L4, r4, nD4, eD4, ra4, ec, er⟩
              | true =>
                rw [if_pos rfl]
                rw [if_pos rfl] at ec
                refine ⟨φ4, st3, h4, S4.mono l4, r4, ?_⟩
                cases e5 : f st3 h4 with
                | bad => simp [e5] at ec
                | ex _ _ => simp [e5] at ec
                | ok y1 h5 =>
                  simp only [e5] at ec
                  intro φ5 H5 yv l5 r5 ry
                  cases e6 : compL g t f (unset st (own.map (·.2))) (ds.drop (i + 1)) h5 with
                  | bad => simp [e6] at ec
                  | ex _ _ => simp [e6] at ec
                  | ok ys1 h6 =>
                    simp only [e6, Rs.ok.injEq] at ec
                    obtain ⟨ec1, ec2⟩ := ec
                    subst ec2
                    subst ec1
                    have eD5 : H5 D = some (.lst accV) := l5.keep D _ eD4 nD4
                    have ra5 := RepL.mono l5.pre l5.per _ _ ra4
                    refine ⟨accV, eD5, ?_, φ5, h5, acc ++ [y1], accV ++ [yv], ys1, Lat.tmp (L4.trans l5) hD eD5 rfl, r5.out (l5.out eD4 nD4) eD5 rfl, l5.out eD4 nD4, upd_same, ?_, e6, by simp [← er]⟩
                    · have := congrArg List.length er
                      simp at this
                      rw [← ra.length, ← line_eq]
                      omega
                    · exact RepL.mono (List.prefix_refl _) (Per.wr eD5 rfl) _ _ (ra5.append (.cons ry .nil))
        · have ei : i = ds.length := by omega
          subst ei
          rw [List.drop_length] at ec
          simp only [compL, Rs.ok.injEq] at ec
          obtain ⟨rfl, rfl⟩ := ec
          rw [List.append_nil] at er
          subst er
          exact .inl ⟨d2, P φ2 H2 _ (l1.trans l2) r2 ⟨D, accV, rfl, nD0, nD2, eD, ra⟩⟩
      · exact P.elim
theorem l_comp {k : Nat} (c0 : Cs k X) (hi : SI X cl W tg iter it) (ok : BlkOk X.N X.env.scope scope own) (his : ∀ i ∈ is, i ∈ own.map (·.2))
    (hg : ∀ (s : Shared) (H : Hp) (C : Addr) (cc : List (Str × Addr)) (fp : List Addr), SG (X.blk s H scope (compEnvC scope cc C X.env) fp) tg g is)
    (ht : ∀ (s : Shared) (H : Hp) (C : Addr) (cc : List (Str × Addr)) (fp : List Addr), STs (X.blk s H scope (compEnvC scope cc C X.env) fp) cl W0 ifs t)
    (he : ∀ (s : Shared) (H : Hp) (C : Addr) (cc : List (Str × Addr)) (fp : List Addr), SE (X.blk s H scope (compEnvC scope cc C X.env) fp) cl W0 elt f) (hs : ∀ x, foldedSetIterable iter X.env x = pure x := by intro _; rfl) :
    SL X cl W (.ListComp elt [⟨tg, iter, ifs, 0⟩] scope pos) (lComp it g t f (own.map (·.2))) := PE.of (pe_lc c0.calm c0.nd hi ok hg ht he hs) fun σ H Q p => comp_go his p
/-- x = [..], frozen -/
theorem s_setComp {k i : Nat} {y : Str} {py spos : Pos} (c0 : Cs k X) (hy : X.N[i]? = some y) (hyl : X.env.scope.names.lookup y = some .local)
    (hsw : swapsWith (.ListComp elt [⟨tg, iter, ifs, 0⟩] scope pos) (some (.Name y py)) spos.line X.env = pure true) (hi : SI X cl W tg iter it) (ok : BlkOk X.N X.env.scope scope own) (his : ∀ i ∈ is, i ∈ own.map (·.2))
    (hg : ∀ (s : Shared) (H : Hp) (C : Addr) (cc : List (Str × Addr)) (fp : List Addr), SG (X.blk s H scope (compEnvC scope cc C X.env) fp) tg g is)
    (ht : ∀ (s : Shared) (H : Hp) (C : Addr) (cc : List (Str × Addr)) (fp : List Addr), STs (X.blk s H scope (compEnvC scope cc C X.env) fp) cl W0 ifs t)
    (he : ∀ (s : Shared) (H : Hp) (C : Addr) (cc : List (Str × Addr)) (fp : List Addr), SE (X.blk s H scope (compEnvC scope cc C X.env) fp) cl W0 elt f) (hs : ∀ x, foldedSetIterable iter X.env x = pure x := by intro _; rfl) :
    SS X cl W (.Assign [.Name y py] (.ListComp elt [⟨tg, iter, ifs, 0⟩] scope pos) spos) (sAsg (gN i) (eFrz (lComp it g t f (own.map (·.2))))) := by
  refine ⟨fun pins s σ H D I p => ?_⟩
  have q := (ps_setLc (g := tGv X.K g is) (tt := tG X.K cl W0 RBool t) (te := tG X.K cl W0 (RR X.K) f) c0.calm c0.nd hy hyl hsw hi ok hg ht he hs).run pins s σ H { D with nx := fun τ H1 => ∃ a vs, τ = σ.set i (some (.ref a)) ∧ H1 a = some (.lst vs) ∧ ∀ o, D.nx τ (upd H1 a (.frz o (.lst vs))) } I (by
    refine comp_go (W := W) (cl := cl) (t := t) (f := f) his ?_
    obtain ⟨φ, st, h0, S, R0, P⟩ := p
    refine ⟨φ, st, h0, S, R0, ?_⟩
    simp only [sAsg, eFrz] at P
    cases e : lComp it g t f (own.map (·.2)) st h0 with
    | bad => simp only [e, Rs.bind, Rs.out] at P; exact P
    | ex ex1 h1 =>
      simp only [e, Rs.bind, Rs.out] at P
      exact fun φ' H' c d l r er => P φ' H' c d σ l r (S.mono l) er
    | ok ds h1 =>
      simp only [e, Rs.bind, gN, Rs.out, outO] at P
      rintro φ' H' v l r ⟨a, vs, rfl, n0, nn, ea, rr⟩
      refine ⟨a, vs, rfl, ea, fun o => ?_⟩
      obtain ⟨l2, x2, y2⟩ := Fresh.frz (o := o) l n0 r nn ea rr
      exact P φ' _ _ l2 x2 ((S.mono l2).set i y2))
  refine thn q fun fl s1 h1 => ?_
  cases fl with
  | next =>
    obtain ⟨σ', H', I', a, vs, rfl, e1, e2⟩ := h1
    obtain ⟨o, I2⟩ := inv_frz I' e1
    exact ⟨_, _, I2, e2 o⟩
  | brk => exact h1
  | cont => exact h1
  | ret u => exact h1
theorem l_compX {k : Nat} (c0 : Cs k X) (hi : SI2 X cl W tg iter it2) (ok : BlkOk X.N X.env.scope scope own) (his : ∀ i ∈ is, i ∈ own.map (·.2))
    (hg : ∀ (s : Shared) (H : Hp) (C : Addr) (cc : List (Str × Addr)) (fp : List Addr), SG (X.blk s H scope (compEnvC scope cc C X.env) fp) tg g is)
    (ht : ∀ (s : Shared) (H : Hp) (C : Addr) (cc : List (Str × Addr)) (fp : List Addr), STs (X.blk s H scope (compEnvC scope cc C X.env) fp) cl W0 ifs t)
    (he : ∀ (s : Shared) (H : Hp) (C : Addr) (cc : List (Str × Addr)) (fp : List Addr), SE (X.blk s H scope (compEnvC scope cc C X.env) fp) cl W0 elt f) (hs : ∀ x, foldedSetIterable iter X.env x = pure x := by intro _; rfl) :
    SL X cl W (.ListComp elt [⟨tg, iter, ifs, 0⟩] scope pos) (lCompX it2 g t f (own.map (·.2))) := PE.of (pe_lc c0.calm c0.nd hi ok hg ht he hs) fun σ H Q p => comp_goX his p
theorem s_setCompX {k i : Nat} {y : Str} {py spos : Pos} (c0 : Cs k X) (hy : X.N[i]? = some y) (hyl : X.env.scope.names.lookup y = some .local)
    (hsw : swapsWith (.ListComp elt [⟨tg, iter, ifs, 0⟩] scope pos) (some (.Name y py)) spos.line X.env = pure true) (hi : SI2 X cl W tg iter it2) (ok : BlkOk X.N X.env.scope scope own) (his : ∀ i ∈ is, i ∈ own.map (·.2))
    (hg : ∀ (s : Shared) (H : Hp) (C : Addr) (cc : List (Str × Addr)) (fp : List Addr), SG (X.blk s H scope (compEnvC scope cc C X.env) fp) tg g is)
    (ht : ∀ (s : Shared) (H : Hp) (C : Addr) (cc : List (Str × Addr)) (fp : List Addr), STs (X.blk s H scope (compEnvC scope cc C X.env) fp) cl W0 ifs t)
    (he : ∀ (s : Shared) (H : Hp) (C : Addr) (cc : List (Str × Addr)) (fp : List Addr), SE (X.blk s H scope (compEnvC scope cc C X.env) fp) cl W0 elt f) (hs : ∀ x, foldedSetIterable iter X.env x = pure x := by intro _; rfl) :
    SS X cl W (.Assign [.Name y py] (.ListComp elt [⟨tg, iter, ifs, 0⟩] scope pos) spos) (sAsg (gN i) (eFrz (lCompX it2 g t f (own.map (·.2))))) := by
  refine ⟨fun pins s σ H D I p => ?_⟩
  have q := (ps_setLc (g := tGv X.K g is) (tt := tG X.K cl W0 RBool t) (te := tG X.K cl W0 (RR X.K) f) c0.calm c0.nd hy hyl hsw hi ok hg ht he hs).run pins s σ H { D with nx := fun τ H1 => ∃ a vs, τ = σ.set i (some (.ref a)) ∧ H1 a = some (.lst vs) ∧ ∀ o, D.nx τ (upd H1 a (.frz o (.lst vs))) } I (by
    refine comp_goX (W := W) (cl := cl) (t := t) (f := f) his ?_
    obtain ⟨φ, st, h0, S, R0, P⟩ := p
    refine ⟨φ, st, h0, S, R0, ?_⟩
    simp only [sAsg, eFrz] at P
    cases e : lCompX it2 g t f (own.map (·.2)) st h0 with
    | bad => simp only [e, Rs.bind, Rs.out] at P; exact P
    | ex ex1 h1 =>
      simp only [e, Rs.bind, Rs.out] at P
      exact fun φ' H' c d l r er => P φ' H' c d σ l r (S.mono l) er
    | ok ds h1 =>
      simp only [e, Rs.bind, gN, Rs.out, outO] at P
      rintro φ' H' v l r ⟨a, vs, rfl, n0, nn, ea, rr⟩
      refine ⟨a, vs, rfl, ea, fun o => ?_⟩
      obtain ⟨l2, x2, y2⟩ := Fresh.frz (o := o) l n0 r nn ea rr
      exact P φ' _ _ l2 x2 ((S.mono l2).set i y2))
  refine thn q fun fl s1 h1 => ?_
  cases fl with
  | next =>
    obtain ⟨σ', H', I', a, vs, rfl, e1, e2⟩ := h1
    obtain ⟨o, I2⟩ := inv_frz I' e1
    exact ⟨_, _, I2, e2 o⟩
  | brk => exact h1
  | cont => exact h1
  | ret u => exact h1
end
end Y
end

section
set_option Elab.async false
set_option linter.all false
set_option maxRecDepth 100000
set_option maxHeartbeats 2000000
/-! YH: statements, displays of dicts, defs and their calls, the law's end. -/
namespace Y
open PySem PySem.Spec PyProof.Rows L2

section
variable {X : Cx} {cl : Nat → Addr} {W : WX} {e a b o i : Expr} {es : List Expr} {f g q : Ev} {fl : Lv} {fa : Av} {t t' : Tv} {pos : Pos} {k : Nat} {u v : Sv} {st : Stmt} {rest body els : List Stmt}
/-- an evaluation within a statement -/
theorem seqO {γ δ : Type} {Rel : RT γ δ} {f : Sl → Hm → Rs γ} {k : Sl → γ → Hm → Out} {σ : L2.St} {H : Hp} {D : Ends} {R : δ → Hp → Prop} (p : tSt X.K cl W (fun σ h => (f σ h).out σ fun d h1 => k σ d h1) D σ H)
    (h : ∀ φ0 st φ H1 h1 x w, Lat φ0 H φ H1 → SR X.K φ H1 st σ → HR X.K φ H1 h1 → Rel H φ H1 x w → (∀ φ' H', Lat φ0 H φ' H' → PostS X.K cl φ' H' (k st x h1) D W) → R w H1) : tG X.K cl W Rel f σ H R := by
  obtain ⟨φ, st, h0, S, R0, P⟩ := p
  refine ⟨φ, st, h0, S, R0, ?_⟩
  cases e : f st h0 with
  | bad => simp only [e, Rs.out] at P; exact P
  | ex ex1 h1 =>
    simp only [e, Rs.out] at P
    exact fun φ' H' c d l r er => P φ' H' c d σ l r (S.mono l) er
  | ok x h1 =>
    simp only [e, Rs.out] at P
    exact fun φ1 H1 w l1 r1 q1 => h φ st φ1 H1 h1 x w l1 (S.mono l1) r1 q1 fun φ' H' l => P.lat l
theorem ss_nil : SSs X cl W [] sPass := PSs.of pss_nil fun D σ H ⟨φ, st, h, S, R, P⟩ => P φ H σ (Lat.refl _ _) R S
theorem ss_cons (h1 : SS X cl W st u) (h2 : SSs X cl W rest v) : SSs X cl W (st :: rest) (sSeq u v) := PSs.of (pss_cons h1 h2) fun D σ H ⟨φ, st, h, S, R, P⟩ => by
  refine ⟨φ, st, h, S, R, ?_⟩
  simp only [sSeq] at P
  cases e : u st h with
  | nx σ1 h1 =>
    simp only [e] at P
    exact fun φ' H' τ l r s => ⟨φ', σ1, h1, s, r, P.lat l⟩
  | bk _ _ => simp only [e] at P; exact P
  | ct _ _ => simp only [e] at P; exact P
  | rt _ _ => simp only [e] at P; exact P
  | rl _ _ => simp only [e] at P; exact P
  | ex _ _ _ => simp only [e] at P; exact P
  | bad => simp only [e] at P; exact P
theorem ss_one (h1 : SS X cl W st u) : SSs X cl W [st] u := pss_one h1
theorem s_pass : SS X cl W (.Pass pos) sPass := PS.of ps_pass fun D σ H ⟨φ, st, h, S, R, P⟩ => P φ H σ (Lat.refl _ _) R S
theorem s_bk : SS X cl W (.Break pos) sBk := PS.of ps_break fun D σ H ⟨φ, st, h, S, R, P⟩ => P φ H σ (Lat.refl _ _) R S
theorem s_ct : SS X cl W (.Continue pos) sCt := PS.of ps_continue fun D σ H ⟨φ, st, h, S, R, P⟩ => P φ H σ (Lat.refl _ _) R S
theorem s_never : SS X cl W st sNever := PS.of ps_never fun D σ H ⟨φ, st, h, S, R, P⟩ => P
theorem s_ifS {c : Expr} (hc : ST X cl W c t) (ha : SSs X cl W body u) (hb : SSs X cl W els v) : SS X cl W (.If c body els pos) (sIf t u v) := PS.of (ps_if hc ha hb) fun D σ H p =>
  seqO (Rel := RBool) (k := fun σ t h1 => if t = true then u σ h1 else v σ h1) p fun φ0 st φ H1 h1 x w l S R r P => by
    cases (show x = w from r)
    cases x with
    | true => exact ⟨φ, st, h1, S, R, P _ _ l⟩
    | false => exact ⟨φ, st, h1, S, R, P _ _ l⟩
theorem s_ret (h : SE X cl W e f) : SS X cl W (.Return (some e) pos) (sRet f) := PS.of (ps_ret h) fun D σ H p =>
  seqO (Rel := RR X.K) (k := fun _ d h1 => Out.rt d h1) p fun φ0 st φ H1 h1 x w l S R r P => P _ _ l φ H1 w (Lat.refl _ _) R r
theorem s_retN : SS X cl W (.Return none pos) sRetN := PS.of ps_retN fun D σ H ⟨φ, st, h, S, R, P⟩ => P φ H _ (Lat.refl _ _) R .non
theorem s_retL (h : SL X cl W e fl) : SS X cl W (.Return (some e) pos) (sRetL fl) := PS.of (ps_ret h) fun D σ H ⟨φ, st, h0, S, R0, P⟩ => by
  refine ⟨φ, st, h0, S, R0, ?_⟩
  simp only [sRetL] at P
  cases e : fl st h0 with
  | bad => simp only [e, Rs.out] at P; exact P
  | ex ex1 h1 =>
    simp only [e, Rs.out] at P
    exact fun φ' H' c d l r er => P φ' H' c d σ l r (S.mono l) er
  | ok x h1 =>
    simp only [e, Rs.out] at P
    exact fun φ1 H1 w l1 r1 q1 => P φ1 H1 w l1 r1 q1
theorem s_expr (h : SE X cl W e f) (hs : swapsWith e none pos.line X.env = pure false := by rfl) : SS X cl W (.Expr e pos) (sExpr f) := PS.of (ps_expr h hs) fun D σ H p =>
  seqO (Rel := RR X.K) (k := fun σ _ h1 => Out.nx σ h1) p fun φ0 st φ H1 h1 x w l S R r P => P _ _ l φ H1 σ (Lat.refl _ _) R S
/-- target = value -/
theorem s_asg {tg : Expr} {gv : Gv} {is : List Nat} (h : SE X cl W e f) (hg : SG X tg gv is) (hs : swapsWithSole [tg] e pos.line X.env = pure false := by rfl) (hw : swappedStores [tg] e X.env = pure none := by rfl) (h1 : (assignEach [tg] X.env).map (·.2) = [assign tg X.env] := by rfl) :
    SS X cl W (.Assign [tg] e pos) (sAsg gv f) := PS.of (ps_asg h hg hs hw h1) fun D σ H p =>
  seqO (Rel := RR X.K) (k := fun σ d h1 => outO (gv d σ) h1) p fun φ0 st φ H1 h1 x w l S R r P => by
    have P := P _ _ l
    cases e : gv x st with
    | none => rw [e] at P; exact P.elim
    | some st1 =>
      rw [e] at P
      exact ⟨φ, st, x, st1, S, r, e, fun τ S' _ => P φ H1 τ (Lat.refl _ _) R S'⟩
theorem s_set {j : Nat} {x : Str} {p' : Pos} (hN : X.N.Nodup) (h : SE X cl W e f) (hi : X.N[j]? = some x := by rfl) (hx : Loc X.env.scope x := by first | exact Or.inl rfl | exact Or.inr rfl) (hs : swapsWith e (some (.Name x p')) pos.line X.env = pure false := by rfl) (hf : X.fn x = true ∨ X.env.scope.names.lookup x = some .local := by first | exact .inl rfl | exact .inr rfl | assumption) :
    SS X cl W (.Assign [.Name x p'] e pos) (sAsg (gN j) f) := PS.of (ps_set hN hi hx h hs hf) fun D σ H p =>
  seqO (Rel := RR X.K) (k := fun σ d h1 => outO (gN j d σ) h1) p fun φ0 st φ H1 h1 x w l S R r P => P _ _ l φ H1 _ (Lat.refl _ _) R (S.set j r)
/-- a, b = x, y, two plain locals -/
theorem s_par {j l : Nat} {x y : Str} {px py pt pt2 : Pos} {n n2 : Nat} (hc : X.calm = true) (hN : X.N.Nodup) (ha : SA X cl W [a, b] fa) (hi : X.N[j]? = some x := by rfl) (hj : X.N[l]? = some y := by rfl) (hij : j ≠ l := by decide)
    (hx : X.env.scope.names.lookup x = some .local := by rfl) (hy : X.env.scope.names.lookup y = some .local := by rfl)
    (hw : swappedStores [.Tuple [.Name x px, .Name y py] n pt] (.Tuple [a, b] n2 pt2) X.env = pure (some [x, y]) := by rfl) (hs : swapsWithSole [.Tuple [.Name x px, .Name y py] n pt] (.Tuple [a, b] n2 pt2) pos.line X.env = pure false := by rfl) :
    SS X cl W (.Assign [.Tuple [.Name x px, .Name y py] n pt] (.Tuple [a, b] n2 pt2) pos) (sPar j l fa) := PS.of (ps_par hc hN hi hj hij hx hy ha hw hs) fun D σ H p =>
  seqO (Rel := RL X.K) (k := fun σ xs h1 => match xs with | [x, y] => .nx ((σ.set j (some x)).set l (some y)) h1 | _ => .bad) p fun φ0 st φ H1 h1 x w l S R r P => by
    have P := P _ _ l
    split at P
    · cases r with
      | cons r1 r2 =>
        obtain ⟨w2, rfl, r3⟩ := r2.one
        exact ⟨_, _, rfl, P φ H1 _ (Lat.refl _ _) R ((S.set _ r1).set _ r3)⟩
    · exact P.elim

/-! ### o[k] = v -/
def rSt : TSet := fun o i v H Q => rSetL o i v H Q ∨ ∃ a H', o = .ref a ∧ DPut H a i v H' ∧ Q H'
theorem set_all (hu : X.A.units + 1 < cLine) : PSet X rSt := fun pins s σ H o i v ov iv u Q I ro ri rv h => by
  rcases h with h | ⟨a, H', rfl, g, q⟩
  · exact set_list pins s σ H o i v ov iv u Q I ro ri rv h
  · cases ro
    exact d_setItem hu I g ri rv fun s' I' => ⟨H', I', q⟩
theorem setD_sound {φ : List Addr} {H : Hp} {h h' : Hm} {x y z : D} {o i v : V} (R : HR X.K φ H h) (rx : Rep X.K φ H x o) (ry : Rep X.K φ H y i) (rz : Rep X.K φ H z v) (e : setD h x y z = some h') {Q : Hp → Prop} (q : ∀ H', Lat φ H φ H' → HR X.K φ H' h' → Q H') : rSt o i v H Q := by
  cases rx <;> simp only [setD] at e <;> try (cases e; done)
  rename_i n a hk
  obtain ⟨ob, h1, h2⟩ := R.at hk
  have mem : a ∈ φ := List.mem_of_getElem? hk
  cases h2 with
  | dtu hh rr => rw [h1] at e; cases e
  | dct hh rr =>
    rename_i kvs vs
    rw [h1] at e
    simp only at e
    cases ek : keyOf y with
    | none => rw [ek] at e; cases e
    | some ky =>
      rw [ek] at e
      simp only at e
      split at e
      · rename_i hl
        cases e
        obtain rfl := key_of_rep ry ek
        refine .inr ⟨a, _, rfl, .k hh (by rw [← Paired.length rr, ← line_eq]; exact hl), ?_⟩
        refine q _ (Lat.wr hh rfl mem) (R.wr hk (.dct upd_same ?_))
        exact (rr.set ky rz).mono (List.prefix_refl _) (Per.wr hh rfl)
      · cases e
  | lst hh rr =>
    rename_i xs vs
    rw [h1] at e
    simp only at e
    cases ry <;> simp only at e <;> try (cases e; done)
    rename_i j
    obtain ⟨m, e1, rfl⟩ := Option.map_eq_some_iff.mp e
    refine .inl ⟨a, vs, j, m, rfl, rfl, hh, by rw [← rr.length]; exact e1, ?_⟩
    refine q _ (Lat.wr hh rfl mem) (R.wr hk (.lst upd_same ?_))
    exact RepL.mono (List.prefix_refl _) (Per.wr hh rfl) _ _ (rr.set rz m)
theorem s_store {p' : Pos} (c0 : Cs k X) (ho : SE X cl W o f) (hi : SE X cl W i g) (he : SE X cl W e q)
    (ha : ∀ v, assign (.Subscript o i p') X.env v = (do
      let ov ← holding [v] (eval o X.env)
      let iv ← holding [v, ov] (eval i X.env)
      standAt p'
      holding [v, ov, iv] (setItem ov iv v)
      release [v, ov, iv] []) := by intro _; rfl)
    (hs : swapsWithSole [.Subscript o i p'] e pos.line X.env = pure false := by rfl) (hw : swappedStores [.Subscript o i p'] e X.env = pure none := by rfl) (h1 : (assignEach [.Subscript o i p'] X.env).map (·.2) = [assign (.Subscript o i p') X.env] := by rfl) :
    SS X cl W (.Assign [.Subscript o i p'] e pos) (sStore f g q) := PS.of (ps_asg he (pg_sub ho hi (set_all c0.hu) ha) hs hw h1) fun D σ H p =>
  seqO (Rel := RR X.K) (k := fun σ v h1 => (f σ h1).out σ fun o h2 => (g σ h2).out σ fun k h3 => match setD h3 o k v with | some h4 => .nx σ h4 | none => .bad) p fun φ0 st φ H1 h1 x w l S R r P => by
    have P := P _ _ l
    refine ⟨φ, st, h1, S, R, ?_⟩
    cases e1 : f st h1 with
    | bad => simp only [e1, Rs.out] at P; exact P
    | ex ex1 h2 => simp only [e1, Rs.out] at P; exact fun φ' H' c d l r er => P φ' H' c d σ l r (S.mono l) er
    | ok x2 h2 =>
      simp only [e1, Rs.out] at P
      intro φ2 H2 w2 l2 R2 r2
      have P := P.lat l2
      refine ⟨φ2, st, h2, S.mono l2, R2, ?_⟩
      cases e2 : g st h2 with
      | bad => simp only [e2] at P; exact P
      | ex ex1 h3 => simp only [e2] at P; exact fun φ' H' c d l r er => P φ' H' c d σ l r (S.mono (l2.trans l)) er
      | ok x3 h3 =>
        simp only [e2] at P
        intro φ3 H3 w3 l3 R3 r3
        have P := P.lat l3
        cases e3 : setD h3 x2 x3 x with
        | none => simp only [e3] at P; exact P.elim
        | some h4 =>
          simp only [e3] at P
          exact setD_sound R3 (Rep.mono l3.pre l3.per _ _ r2) r3 (Rep.mono (l2.trans l3).pre (l2.trans l3).per _ _ r) e3 fun H' l4 R4 => P φ3 H' σ l4 R4 (S.mono ((l2.trans l3).trans l4))
/-! ### o.append(e) -/
theorem s_app {p1 p2 : Pos} (ho : SE X cl W o f) (he : SE X cl W e g) (hpe : ∀ {to : TE} {t : TA}, PE X o to → PA X [e] t → PE X (.Call (.Attribute o "append" p1) [e] [] p2) (tBM X.K "list" rAppend to t))
    (hs1 : starEach [e] X.env = (false, eval e X.env) :: starEach [] X.env := by rfl) (hs : swapsWith (.Call (.Attribute o "append" p1) [e] [] p2) none pos.line X.env = pure false := by rfl) :
    SS X cl W (.Expr (.Call (.Attribute o "append" p1) [e] [] p2) pos) (sApp f g) := PS.of (ps_expr (hpe ho (pa_cons he pa_nil hs1)) hs) fun D σ H p =>
  seqO (Rel := RR X.K) (k := fun σ o h1 => if isLst h1 o = true then (g σ h1).out σ fun v h2 => match appD h2 o v with | some h3 => .nx σ h3 | none => .bad else .bad) p fun φ0 st φ H1 h1 x w l S R r P => by
    have P := P _ _ l
    split at P
    · rename_i hl
      cases r <;> simp only [isLst] at hl <;> try (cases hl; done)
      rename_i n ad hk _
      obtain ⟨ob, h3, h4⟩ := R.at hk
      refine ⟨?_, φ, st, h1, S, R, ?_⟩
      · rw [h3] at hl
        cases h4 with
        | lst hh _ => exact .inl ⟨rfl, _, .of hh⟩
        | dct hh _ => simp at hl
        | dtu hh _ => simp at hl
      · cases e2 : g st h1 with
        | bad => simp only [e2, Rs.out] at P; exact P
        | ex ex1 h3 => simp only [e2, Rs.out] at P; exact fun φ' H' c d l r er => P φ' H' c d σ l r (S.mono l) er
        | ok x3 h5 =>
          simp only [e2, Rs.out] at P
          intro φ3 H3 w3 l3 R3 r3
          have P := P.lat l3
          have hk4 := pre_get l3.pre hk
          obtain ⟨ob2, h6, h7⟩ := R3.at hk4
          simp only [appD, h6] at P
          cases h7 with
          | dct hh _ => exact P.elim
          | dtu hh _ => exact P.elim
          | lst hh rr =>
            rename_i xs vs
            simp only at P
            by_cases hz : xs.length < line
            · rw [if_pos hz] at P
              have mem : ad ∈ φ3 := List.mem_of_getElem? hk4
              refine ⟨ad, _, w3, rfl, rfl, hh, by rw [← rr.length, ← line_eq]; exact hz, ?_⟩
              refine P φ3 _ σ (Lat.wr hh rfl mem) (R3.wr hk4 (.lst upd_same ?_)) (S.mono (l3.trans (Lat.wr hh rfl mem)))
              exact RepL.mono (List.prefix_refl _) (Per.wr hh rfl) _ _ (rr.append (.cons r3 .nil))
            · rw [if_neg hz] at P
              exact P.elim
    · exact P.elim
end
end Y
end

section
set_option Elab.async false
set_option linter.all false
set_option maxRecDepth 100000
set_option maxHeartbeats 2000000
/-! YI: displays of dicts, defs, their calls, the law's end. -/
namespace Y
open PySem PySem.Spec PyProof.Rows L2

/-! ### {k: v, ..} -/
section
variable {X : Cx} {cl : Nat → Addr} {W : WX} {pos : Pos}
def RP (K : PySem.W.Frag) : RT (List D) (List (V × V)) := fun _ φ H l ps => RepL K φ H l (ps.flatMap fun p => [p.1, p.2])
instance {K : PySem.W.Frag} : Back (RP K) := ⟨fun _ _ h => h⟩
structure SP' (X : Cx) (cl : Nat → Addr) (W : WX) (pos : Pos) (ks : List (Option Expr)) (vs : List Expr) (f : Av) : Prop where
  ex : ∃ trs, PPs X pos ks vs trs ∧ ∀ σ H Q, tG X.K cl W (RP X.K) f σ H Q → tPairs trs σ H Q
theorem p_nil : SP' X cl W pos [] [] pN := ⟨[], pps_nil, fun σ H Q ⟨φ, st, h, S, R, P⟩ => P.val R .nil⟩
theorem p_cons {k v : Expr} {ks : List (Option Expr)} {vs : List Expr} {f g : Ev} {r : Av} (hk : SE X cl W k f) (hv : SE X cl W v g) (hr : SP' X cl W pos ks vs r) : SP' X cl W pos (some k :: ks) (v :: vs) (pC f g r) := by
  obtain ⟨trs, h1, h2⟩ := hr.ex
  refine ⟨_, pps_cons hk hv h1, fun σ H Q p => ?_⟩
  obtain ⟨φ, st, h0, S, R0, P⟩ := p
  refine ⟨φ, st, h0, S, R0, P.seq fun x h1 φ1 H1 v l1 r1 q1 P1 => ⟨φ1, st, h1, S.mono l1, r1, P1.seq fun y h2' φ2 H2 u l2 r2 q2 P2 => h2 _ _ _ ⟨φ2, st, h2', S.mono (l1.trans l2), r2, P2.seq fun xs h3 φ3 H3 ps l3 r3 q3 P3 => ?_⟩⟩⟩
  exact P3.val r3 (show RepL X.K φ3 H3 (x :: y :: xs) (v :: u :: ps.flatMap fun p => [p.1, p.2]) from .cons (Rep.mono (l2.trans l3).pre (l2.trans l3).per _ _ q1) (.cons (Rep.mono l3.pre l3.per _ _ q2) q3))
theorem kvs_sound {K : PySem.W.Frag} {φ : List Addr} {H : Hp} : ∀ {ps : List (V × V)} {l : List D} {kvs : List (Key × D)}, RepL K φ H l (ps.flatMap fun p => [p.1, p.2]) → kvsOf l = some kvs → ∃ kv, ps = kv.map (fun p => (kV p.1, p.2)) ∧ RepK K φ H kvs kv
  | [], l, kvs, r, e => by
    cases r
    simp [kvsOf] at e
    subst e
    exact ⟨[], rfl, .nil⟩
  | (p1, p2) :: ps, l, kvs, r, e => by
    cases r with
    | @cons x _ _ _ r1 r =>
      cases r with
      | @cons y _ ys _ r2 r =>
        simp only [kvsOf] at e
        cases e1 : keyOf x with
        | none => rw [e1] at e; cases e
        | some k =>
          cases e2 : kvsOf ys with
          | none => rw [e1, e2] at e; cases e
          | some l2 =>
            rw [e1, e2] at e
            cases e
            obtain ⟨kv, rfl, rk⟩ := kvs_sound r e2
            have ek := key_of_rep r1 e1
            dsimp only at ek
            subst ek
            exact ⟨(k, p2) :: kv, rfl, .cons ⟨rfl, r2⟩ rk⟩
theorem RepK.merge {K : PySem.W.Frag} {φ : List Addr} {H : Hp} : ∀ {more : List (Key × D)} {mv : List (Key × V)} {a : List (Key × D)} {b : List (Key × V)}, RepK K φ H more mv → RepK K φ H a b → RepK K φ H (mergeD a more) (mergeK b mv) := by
  intro more mv a b r
  induction r generalizing a b with
  | nil => intro q; exact q
  | @cons p q ps qs h t ih =>
    intro z
    show RepK K φ H (mergeD (setK a p.1 p.2) ps) (mergeK (putK b q.1 q.2) qs)
    rw [← h.1]
    exact ih (z.set p.1 h.2)
theorem s_dct {ks : List (Option Expr)} {vs : List Expr} {f : Av} (h : SP' X cl W pos ks vs f) (hall : ks.all (·.isSome) = true) (hl : ks.length = vs.length) (h0 : ks ≠ []) (h15 : ks.length ≤ 15) : SE X cl W (.Dict ks vs pos) (eDct f) := by
  obtain ⟨trs, h1, h2⟩ := h.ex
  refine PE.of (pe_disp h1 hall hl h0 h15) fun σ H Q p => ?_
  intro D hD
  obtain ⟨φ, st, h0, S, R0, P⟩ := p
  have nD : D ∉ φ := R0.notin hD
  have L0 : Lat φ H φ (upd H D (.dK [])) := Lat.new hD
  refine h2 _ _ _ ⟨φ, st, h0, S.mono L0, R0.new hD, ?_⟩
  simp only [eDct] at P
  cases e : f st h0 with
  | bad => simp only [e, Rs.bind] at P; exact P
  | ex ex1 h1 =>
    simp only [e, Rs.bind] at P
    exact fun φ' H' c d l r er => P φ' H' c d (L0.trans l) r er
  | ok l h1 =>
    simp only [e, Rs.bind] at P
    intro φ1 H1 ps l1 R1 r1
    cases ek : kvsOf l with
    | none => rw [ek] at P; exact P.elim
    | some kvs =>
      rw [ek] at P
      simp only at P
      split at P
      · rename_i hz
        obtain ⟨kv, rfl, rk⟩ := kvs_sound r1 ek
        have eD : H1 D = some (.dK []) := l1.keep D _ upd_same nD
        have nD1 : D ∉ φ1 := l1.out upd_same nD
        refine ⟨eD, kv, rfl, by rw [← Paired.length rk]; exact hz, ?_⟩
        have L : Lat φ H φ1 (upd H1 D (.dK (mergeK [] kv))) := Lat.tmp (L0.trans l1) hD eD rfl
        have rk2 : RepK X.K φ1 (upd H1 D (.dK (mergeK [] kv))) (mergeD [] kvs) (mergeK [] kv) := (RepK.merge rk .nil).mono (List.prefix_refl _) (Per.wr eD rfl)
        refine P (φ1 ++ [D]) _ _ ⟨L.pre.trans (List.prefix_append _ _), L.per, L.keep, fun b m => ?_⟩ ((R1.out nD1 eD rfl).add nD1 (.dct upd_same (rk2.mono (List.prefix_append _ _) (Per.refl _)))) (.loc ?_)
        · rcases List.mem_append.mp m with m | m
          · exact L.fresh b m
          · simp at m
            subst m
            exact .inr hD
        · rw [List.getElem?_append_right (by rw [R1.len]; exact Nat.le_refl _)]
          simp [R1.len]
      · exact P.elim
end

/-! ### a def -/
structure FnG (P : Program) (w : World) (K : PySem.W.Frag) (mg : Str → Option Value) (base : Heap) (k : Nat) (f : Addr) (fd : FuncData) (ps : List Str) (sp : Sp) : Prop where
  len : ∀ vs H Q E, sp vs H Q E → vs.length = ps.length
  run : ∀ (A : Around) (outer : List Env) (s : Shared) (H : Hp) (args : Args) (us : List Value) (vs : List V) (Q : VK) (E : XK), Room k A → A.guards = some [] → Env0 P w K mg base A outer s H → BindsTo s fd args (ps.zip us) → Vals vs us → sp vs H Q E →
    codeAny (model P w) A (.call (.ref f) args) (CR (L2.CX P w) outer P w H s Q E) s
theorem FnG.mono {P : Program} {w : World} {K : PySem.W.Frag} {mg : Str → Option Value} {base : Heap} {j k : Nat} {f : Addr} {fd : FuncData} {ps : List Str} {sp : Sp} (F : FnG P w K mg base j f fd ps sp) (h : j ≤ k) : FnG P w K mg base k f fd ps sp :=
  ⟨F.len, fun A outer s H args us vs Q E hr => F.run A outer s H args us vs Q E (hr.mono h)⟩
/-- «does what d does» -/
def spP (K : PySem.W.Frag) (cl : Nat → Addr) (n : Nat) (d : Fn) : Sp := fun vs H Q E => ∃ φ ds h, ds.length = n ∧ RepL K φ H ds vs ∧ HR K φ H h ∧ Post K cl φ H (RR K) (d ds h) Q E
def spL (K : PySem.W.Frag) (cl : Nat → Addr) (n : Nat) (d : FnL) : Sp := fun vs H Q E => ∃ φ ds h, ds.length = n ∧ RepL K φ H ds vs ∧ HR K φ H h ∧ Post K cl φ H (Fresh K) (d ds h) Q E
/-- the context of a def's body -/
abbrev cxY (P : Program) (w : World) (K : PySem.W.Frag) (mg : Str → Option Value) (base : Heap) (N : List Str) (qual : Str) (scope : Scope) (f : Addr) (cd : Value) (A : Around) (outer : List Env) (s : Shared) (H : Hp) (E : XK) : Cx :=
  cxOf (L2.CX P w) P w K mg base N qual scope f cd A outer s H E
section
variable {P : Program} {w : World} {K : PySem.W.Frag} {mg : Str → Option Value} {base : Heap}
theorem binds_all {scope : Scope} {ps : List Str} {us : List Value} (h : ∀ x ∈ ps, scope.names.lookup x = some .local ∨ scope.names.lookup x = some .cell) : ((ps.zip us).all fun y => scope.names.lookup y.1 == some .local || scope.names.lookup y.1 == some .cell) = true := by
  rw [List.all_eq_true]
  rintro ⟨n, v⟩ hy
  rcases h n (List.of_mem_zip hy).1 with e | e <;> simp [e]
theorem gn_of {x qual : Str} {st : Stmt} {f : Addr} {fd : FuncData} {N ps : List Str} {k : Nat} {sp : Sp} (F : Fun K x qual st f fd) (S : FnScope N ps (defScope st)) (len : ∀ vs H Q E, sp vs H Q E → vs.length = ps.length)
    (hb : ∀ (cdv : Value) (A : Around) (outer : List Env) (s : Shared) (H : Hp) (vs : List V) (Q : VK) (E : XK), Cs k (cxY P w K mg base N qual (defScope st) f cdv A outer s H E) → sp vs H Q E →
      ∃ t, PSs (cxY P w K mg base N qual (defScope st) f cdv A outer s H E) (defBody st) t ∧ t { nx := fun _ H' => Q .non H', rt := Q } (start N vs) H) : FnG P w K mg base (k + 1) f fd ps sp := by
  obtain ⟨oc, od, kV, doc, pm, an, cdv, ct, osl, rfl, lk, hcd⟩ := F.ex
  refine ⟨len, fun A outer s H args us vs Q E hr hg e0 hbd r hsp => ?_⟩
  have KX : K.In s.heap := e0.mod.kin.keeps fun b o e => (e0.bs b o e).1
  have lim : s.heap.NoLimit := e0.mod.nolimit.keeps fun b o e => (e0.bs b o e).1
  refine Att.call_fn KX lim lk hcd hr.depth hbd (binds_all S.par) (fun s₁ IC => ?_) S.co S.gen S.kind
  obtain ⟨t, ht, hq⟩ := hb cdv A outer s H vs Q E ⟨hr.deeper _, hg, rfl, S.nd⟩ hsp
  have I := inv_start (CX := L2.CX P w) (E := E) (cd := cdv) (f := f) (qual := qual) S hr.hd e0 (len _ _ _ _ hsp) r IC
  refine wpAny_mono (ht.run [] s₁ (start N vs) H _ I hq) (fun fl s' hs => ?_) fun e s' hs => hs
  have fin : ∀ {σ' : L2.St} {H' : Hp} {v : V} {u : Value}, L2.Inv (cxY P w K mg base N qual (defScope st) f cdv A outer s H E) [] σ' H' s' → RelV v u → Q v H' → CE outer P w H s Q u s' := fun J rv q => ⟨_, _, J.os, J.bare, J.base, J.hok, rv, q⟩
  cases fl with
  | ret u =>
    obtain ⟨v, σ', H', J, rv, q⟩ := hs
    exact fin J rv q
  | next =>
    obtain ⟨σ', H', J, q⟩ := hs
    exact fin (v := V.non) (u := Value.none) J rfl q
  | brk => obtain ⟨_, _, _, q⟩ := hs; exact q.elim
  | cont => obtain ⟨_, _, _, q⟩ := hs; exact q.elim
end

/-! ### what a def made for itself is forgotten -/
section
variable {K : PySem.W.Frag} {φ : List Addr} {H : Hp}
mutual
theorem Rep.low : ∀ (d : D) (v : V), Rep K φ H d v → D.low φ.length d = true
  | .non, _, _ => rfl
  | .bl _, _, _ => rfl
  | .int _, _, _ => rfl
  | .str _, _, _ => rfl
  | .tup ds, _, h => by cases h with | tup h r => simpa [D.low] using RepL.low ds _ r
  | .fl ds, _, h => by cases h with | fl h r => simpa [D.low] using RepL.low ds _ r
  | .sq ds, _, h => by cases h with | sq h r => simpa [D.low] using RepL.low ds _ r
  | .loc k, _, h => by cases h with | loc h => simpa [D.low] using (List.getElem?_eq_some_iff.mp h).1
  | .obj c ns ds, _, h => by cases h with | obj hc h e1 e2 r => simpa [D.low] using RepL.low ds _ r
theorem RepL.low : ∀ (d : List D) (v : List V), RepL K φ H d v → D.lowL φ.length d = true
  | [], _, _ => rfl
  | d :: ds, _, h => by cases h with | cons h r => simp [D.lowL, Rep.low d _ h, RepL.low ds _ r]
end
theorem repK_low {κ : Type} {xs : List (κ × D)} {ys : List (κ × V)} (r : RepK K φ H xs ys) : D.lowL φ.length (xs.map (·.2)) = true := by
  induction r with
  | nil => rfl
  | cons h _ ih => simp [D.lowL, Rep.low _ _ h.2, ih]
theorem ObR.low {a : Addr} {o : Ob} (x : ObR K φ H a o) : Ob.low φ.length o = true := by
  cases x with
  | lst h r => exact RepL.low _ _ r
  | dct h r => exact repK_low r
  | dtu h r => exact repK_low r
theorem zip_at {α β : Type} : ∀ {l : List α} {m : List β} {i : Nat} {a : α} {b : β}, l[i]? = some a → m[i]? = some b → (a, b) ∈ l.zip m
  | _ :: _, _ :: _, 0, _, _, h, q => by
    simp at h q
    subst h; subst q
    simp
  | _ :: _, _ :: _, i + 1, _, _, h, q => by
    simp at h q
    exact List.mem_cons_of_mem _ (zip_at h q)
  | [], _, _, _, _, h, _ => by simp at h
  | _ :: _, [], _, _, _, _, q => by simp at q
theorem HR.shut {φ' : List Addr} {H' : Hp} {h0 h' : Hm} (R : HR K φ H h0) (l : Lat φ H φ' H') (R' : HR K φ' H' h') (hs : sealed h0.length h0 h' = true) (hl : h0.length ≤ h'.length) : Lat φ H φ H' ∧ HR K φ H' (h'.take h0.length) := by
  have ep : φ'.take h0.length = φ := by
    obtain ⟨t, e⟩ := l.pre
    rw [← e, ← R.len, List.take_left]
  refine ⟨⟨List.prefix_refl _, l.per, l.keep, fun _ m => .inl m⟩, by rw [List.length_take, Nat.min_eq_left hl, R.len], R.nd, fun k a o e1 e2 => ?_⟩
  have lt : k < h0.length := by rw [← R.len]; exact (List.getElem?_eq_some_iff.mp e1).1
  have e2' : h'[k]? = some o := by rw [List.getElem?_take_of_lt lt] at e2; exact e2
  have x := R'.ob k a o (pre_get l.pre e1) e2'
  have low : Ob.low h0.length o = true := by
    have z := List.all_eq_true.mp hs (o, h0[k]) (zip_at e2 (List.getElem?_eq_getElem lt))
    simp only [Bool.or_eq_true, decide_eq_true_eq] at z
    rcases z with z | z
    · have y := (R.ob k a _ e1 (List.getElem?_eq_getElem lt)).low
      rw [R.len] at y
      rw [z]
      exact y
    · exact z
  rw [← ep]
  exact x.cut low
theorem fin_sound {cl : Nat → Addr} {h0 h' : Hm} {d : D} {Q : VK} {We : WE'} (R : HR K φ H h0) (p : Post K cl φ H (RR K) (finP h0 d h') Q We) : ∀ φ' H' v, Lat φ H φ' H' → HR K φ' H' h' → Rep K φ' H' d v → Q v H' := by
  intro φ' H' v l R' r
  unfold finP at p
  split at p
  · exact p φ' H' v l R' r
  · split at p
    · rename_i hc
      simp only [Bool.and_eq_true, decide_eq_true_eq] at hc
      obtain ⟨l2, R2⟩ := R.shut l R' hc.1.2 hc.2
      have ep : φ'.take h0.length = φ := by
        obtain ⟨t, e⟩ := l.pre
        rw [← e, ← R.len, List.take_left]
      refine p φ H' v l2 R2 ?_
      have z := Rep.cut h0.length d v hc.1.1 r
      rw [ep] at z
      exact z
    · exact p.elim
theorem startD_at {n : Nat} {ds : List D} {i : Nat} {d : D} (h : (startD n ds)[i]? = some (some d)) : ds[i]? = some d := by
  unfold startD at h
  by_cases hi : i < ds.length
  · rw [List.getElem?_append_left (by simpa using hi), List.getElem?_map] at h
    cases e : ds[i]? with
    | none => rw [e] at h; cases h
    | some a => rw [e] at h; cases h; rfl
  · rw [List.getElem?_append_right (by simpa using hi), List.getElem?_replicate] at h
    split at h <;> cases h
theorem SR.start {N : List Str} {ds : List D} {vs : List V} (r : RepL K φ H ds vs) : SR K φ H (startD N.length ds) (start N vs) := by
  refine ⟨by simp [startD, L2.start, r.length], fun i d e => ?_⟩
  obtain ⟨v, h1, h2⟩ := r.get (startD_at e)
  refine ⟨v, ?_, h2⟩
  unfold L2.start
  rw [List.getElem?_append_left (by simpa using (List.getElem?_eq_some_iff.mp h1).1), List.getElem?_map, h1]
  rfl
end
section
variable {P : Program} {w : World} {K : PySem.W.Frag} {mg : Str → Option Value} {base : Heap} {cl : Nat → Addr}
/-- the wish of a def's body -/
abbrev wOf (E : XK) : WX := fun c d _ H => E c d H
/-- THE RULE: a def whose body is b's -/
theorem fn_P {x qual : Str} {st : Stmt} {f : Addr} {fd : FuncData} {N ps : List Str} {k : Nat} {b : Sv} (F : Fun K x qual st f fd) (S : FnScope N ps (defScope st))
    (hb : ∀ X : Cx, X.prog = P → X.w = w → X.K = K → X.mg = mg → X.base = base → X.N = N → X.env.scope = defScope st → X.stack = X.env :: X.outer → X.env.frame = some X.env.locals → X.fn = (fun _ => true) → ∀ E : XK, Cs k X → Takes X (wOf E) → PassesOwn (model X.prog X.w) X.A X.env X.xe → SSs X cl (wOf E) (defBody st) b) :
    FnG P w K mg base (k + 1) f fd ps (spP K cl ps.length (fnP N.length b)) := by
  refine gn_of F S (fun vs H Q E ⟨φ, ds, h, e, r, _⟩ => by rw [← r.length, e]) fun cdv A outer s H vs Q E c ⟨φ, ds, h, el, r, R, p⟩ => ?_
  refine ⟨_, hb _ rfl rfl rfl rfl rfl rfl rfl rfl rfl rfl E c (takes_of rfl rfl rfl rfl) (passes_of rfl), φ, startD N.length ds, h, SR.start r, R, ?_⟩
  simp only [fnP] at p
  cases e : b (startD N.length ds) h with
  | rt d h' => simp only [e] at p; exact fin_sound R p
  | nx σ h' => simp only [e] at p; exact fun φ' H' τ l r s => fin_sound R p φ' H' _ l r .non
  | ex e1 σ h' => simp only [e] at p; exact fun φ' H' c d τ l r s er => p φ' H' c d l r er
  | bk _ _ => simp only [e] at p; exact p.elim
  | ct _ _ => simp only [e] at p; exact p.elim
  | rl _ _ => simp only [e] at p; exact p.elim
  | bad => simp only [e] at p; exact p.elim
theorem fn_K {x qual : Str} {st : Stmt} {f : Addr} {fd : FuncData} {N ps : List Str} {k : Nat} {b : Sv} (F : Fun K x qual st f fd) (S : FnScope N ps (defScope st))
    (hb : ∀ X : Cx, X.prog = P → X.w = w → X.K = K → X.mg = mg → X.base = base → X.N = N → X.env.scope = defScope st → X.stack = X.env :: X.outer → X.env.frame = some X.env.locals → X.fn = (fun _ => true) → ∀ E : XK, Cs k X → Takes X (wOf E) → PassesOwn (model X.prog X.w) X.A X.env X.xe → SSs X cl (wOf E) (defBody st) b) :
    FnG P w K mg base (k + 1) f fd ps (spP K cl ps.length (fnK N.length b)) := by
  refine gn_of F S (fun vs H Q E ⟨φ, ds, h, e, r, _⟩ => by rw [← r.length, e]) fun cdv A outer s H vs Q E c ⟨φ, ds, h, el, r, R, p⟩ => ?_
  refine ⟨_, hb _ rfl rfl rfl rfl rfl rfl rfl rfl rfl rfl E c (takes_of rfl rfl rfl rfl) (passes_of rfl), φ, startD N.length ds, h, SR.start r, R, ?_⟩
  simp only [fnK] at p
  cases e : b (startD N.length ds) h with
  | rt d h' => simp only [e] at p; exact p
  | nx σ h' => simp only [e] at p; exact fun φ' H' τ l r s => p φ' H' _ l r .non
  | ex e1 σ h' => simp only [e] at p; exact fun φ' H' c d τ l r s er => p φ' H' c d l r er
  | bk _ _ => simp only [e] at p; exact p.elim
  | ct _ _ => simp only [e] at p; exact p.elim
  | rl _ _ => simp only [e] at p; exact p.elim
  | bad => simp only [e] at p; exact p.elim
theorem fn_L {x qual : Str} {st : Stmt} {f : Addr} {fd : FuncData} {N ps : List Str} {k : Nat} {b : Sv} (F : Fun K x qual st f fd) (S : FnScope N ps (defScope st))
    (hb : ∀ X : Cx, X.prog = P → X.w = w → X.K = K → X.mg = mg → X.base = base → X.N = N → X.env.scope = defScope st → X.stack = X.env :: X.outer → X.env.frame = some X.env.locals → X.fn = (fun _ => true) → ∀ E : XK, Cs k X → Takes X (wOf E) → PassesOwn (model X.prog X.w) X.A X.env X.xe → SSs X cl (wOf E) (defBody st) b) :
    FnG P w K mg base (k + 1) f fd ps (spL K cl ps.length (fnL N.length b)) := by
  refine gn_of F S (fun vs H Q E ⟨φ, ds, h, e, r, _⟩ => by rw [← r.length, e]) fun cdv A outer s H vs Q E c ⟨φ, ds, h, el, r, R, p⟩ => ?_
  refine ⟨_, hb _ rfl rfl rfl rfl rfl rfl rfl rfl rfl rfl E c (takes_of rfl rfl rfl rfl) (passes_of rfl), φ, startD N.length ds, h, SR.start r, R, ?_⟩
  have ept : ∀ {φ'}, φ <+: φ' → φ'.take h.length = φ := fun ⟨t, e⟩ => by rw [← e, ← R.len, List.take_left]
  simp only [fnL] at p
  cases e : b (startD N.length ds) h with
  | rl d h' =>
    simp only [e, finL] at p
    intro φ' H' v l R' q
    split at p
    · exact p φ' H' v l R' q
    · split at p
      · rename_i hc
        simp only [Bool.and_eq_true, decide_eq_true_eq] at hc
        obtain ⟨l2, R2⟩ := R.shut l R' hc.1.2 hc.2
        obtain ⟨a, us, rfl, n0, nn, ea, rr⟩ := q
        refine p φ H' _ l2 R2 ⟨a, us, rfl, n0, pre_notin l.pre nn, ea, ?_⟩
        have z := RepL.cut h.length d us hc.1.1 rr
        rw [ept l.pre] at z
        exact z
      · exact p.elim
  | rt d h' =>
    simp only [e] at p
    intro φ' H' v l R' q
    cases q with
    | @loc kk a hk =>
      simp only [finL] at p
      obtain ⟨ob, h1, h2⟩ := R'.at hk
      cases h2 with
      | dct _ _ => rw [h1] at p; exact p.elim
      | dtu _ _ => rw [h1] at p; exact p.elim
      | lst hh rr =>
        rw [h1] at p
        simp only at p
        split at p
        · rename_i hc
          simp only [Bool.and_eq_true, decide_eq_true_eq] at hc
          have hl : h.length ≤ h'.length := by
            have := (List.getElem?_eq_some_iff.mp h1).1
            omega
          obtain ⟨l2, R2⟩ := R.shut l R' hc.1.2 hl
          have na : a ∉ φ := fun m => by
            obtain ⟨j, ej⟩ := List.getElem?_of_mem m
            have ej' := pre_get l.pre ej
            obtain ⟨x1, y1⟩ := List.getElem?_eq_some_iff.mp ej'
            obtain ⟨x2, y2⟩ := List.getElem?_eq_some_iff.mp hk
            have : j = kk := (List.getElem_inj R'.nd).mp (y1.trans y2.symm)
            have lt : j < φ.length := (List.getElem?_eq_some_iff.mp ej).1
            rw [R.len] at lt
            omega
          have n0 : H a = none := (l.fresh a (List.mem_of_getElem? hk)).resolve_left na
          refine p φ H' _ l2 R2 ⟨a, _, rfl, n0, na, hh, ?_⟩
          have z := RepL.cut h.length _ _ hc.1.1 rr
          rw [ept l.pre] at z
          exact z
        · exact p.elim
    | _ => exact p.elim
  | nx σ h' => simp only [e, finL] at p; exact p.elim
  | ex e1 σ h' => simp only [e, finL] at p; exact fun φ' H' c d τ l r s er => p φ' H' c d l r er
  | bk _ _ => simp only [e, finL] at p; exact p.elim
  | ct _ _ => simp only [e, finL] at p; exact p.elim
  | bad => simp only [e, finL] at p; exact p.elim
end

/-! ### calls -/
section
variable {X : Cx} {cl : Nat → Addr} {W : WX} {e : Expr} {es : List Expr} {fa : Av} {pos p : Pos} {k j n : Nat} {x : Str} {f : Addr} {fd : FuncData} {ps : List Str} {d : Fn} {dl : FnL}
theorem run_g {sp : Sp} {pins : List (Addr × Obj)} {σ : L2.St} {H : Hp} {s : Shared} {Q : VK} {us : List Value} {vs : List V} (F : FnG X.prog X.w X.K X.mg X.base k f fd ps sp) (c : Cs k X) (tk : Takes X W) (hb : Binds X.K fd ps []) (I : L2.Inv X pins σ H s) (r : Vals vs us)
    (h : sp vs H Q fun c d H' => W c d σ H') : wpAny (model X.prog X.w) X.A (call (.ref f) us) (EP X pins σ Q) X.xe s := by
  have hl : us.length = ps.length := by rw [← r.length]; exact F.len _ _ _ _ h
  have b := hb s us I.kIn (by rw [List.append_nil]; exact hl)
  rw [List.append_nil] at b
  refine wpAny_call (codeAny_mono (F.run X.A X.stack s H ⟨us, []⟩ us vs Q _ c.room c.gd I.env0 b r h) fun q s' hq => ?_)
  cases q with
  | error e => exact passAt tk σ pins H s e s' I hq
  | ok fl =>
    cases fl with
    | ret u => exact I.after hq
    | next => exact hq.elim
    | brk => exact hq.elim
    | cont => exact hq.elim
theorem go_call {sp : Sp} {t : TA} (F : FnG X.prog X.w X.K X.mg X.base k f fd ps sp) (c : Cs k X) (tk : Takes X W) (hg : Gl X x) (hm : X.mg x = some (.ref f)) (hk : PySem.W.keepIn X.K (.ref f) = true) (hb : Binds X.K fd ps []) (ha : PA X (e :: es) t) (hdb : (x == ("__debug__" : Str)) = false := by decide)
    (he : starEach (e :: es) X.env = (false, eval e X.env) :: starEach es X.env := by rfl) (hpl : (backTo pos (starEach es X.env)).any (·.1) = false := by rfl) : PE X (.Call (.Name x p) (e :: es) [] pos) (fun σ H Q => t σ H fun vs H1 => sp vs H1 Q fun c d H' => W c d σ H') := by
  refine ⟨fun pins s σ H Q I h => ?_⟩
  refine wpAny_Call_Name_kw (ld_glob I hg hm ?_ hdb)
  exact PySem.W.callWith_K (h₀ := X.base) I.ok.mod.kin hk (thn (ha.run pos pins s σ H _ I h) fun us s1 ⟨vs, H1, I1, r, q⟩ => ⟨I1.kIn, run_g F c tk hb I1 r q⟩) he hpl
theorem go_call0 {sp : Sp} (F : FnG X.prog X.w X.K X.mg X.base k f fd ps sp) (c : Cs k X) (tk : Takes X W) (hg : Gl X x) (hm : X.mg x = some (.ref f)) (hk : PySem.W.keepIn X.K (.ref f) = true) (hb : Binds X.K fd ps []) (hdb : (x == ("__debug__" : Str)) = false := by decide) :
    PE X (.Call (.Name x p) [] [] pos) (fun σ H Q => sp [] H Q fun c d H' => W c d σ H') := by
  refine ⟨fun pins s σ H Q I h => ?_⟩
  refine wpAny_Call_Name_kw (ld_glob I hg hm ?_ hdb)
  exact PySem.W.callWith_K0 I.kIn hk (run_g (us := []) F c tk hb I .nil h)
theorem s_call (F : FnG X.prog X.w X.K X.mg X.base k f fd ps (spP X.K cl n d)) (c : Cs k X) (tk : Takes X W) (hg : Gl X x) (hm : X.mg x = some (.ref f)) (hk : PySem.W.keepIn X.K (.ref f) = true) (hb : Binds X.K fd ps []) (hn : (e :: es).length = n) (hal : ∀ σ h xs h', fa σ h = .ok xs h' → xs.length = (e :: es).length) (ha : SA X cl W (e :: es) fa) (hdb : (x == ("__debug__" : Str)) = false := by decide)
    (he : starEach (e :: es) X.env = (false, eval e X.env) :: starEach es X.env := by rfl) (hpl : (backTo pos (starEach es X.env)).any (·.1) = false := by rfl) : SE X cl W (.Call (.Name x p) (e :: es) [] pos) (eCall d fa) := PE.of (go_call F c tk hg hm hk hb ha hdb he hpl) fun σ H Q p => by
  obtain ⟨φ, st, h0, S, R0, P⟩ := p
  refine ⟨φ, st, h0, S, R0, ?_⟩
  simp only [eCall] at P
  cases e1 : fa st h0 with
  | bad => simp only [e1, Rs.bind] at P; exact P
  | ex ex1 h1 => simp only [e1, Rs.bind] at P; exact P
  | ok xs h1 =>
    simp only [e1, Rs.bind] at P
    exact fun φ1 H1 vs l1 r1 q1 => ⟨φ1, xs, h1, by rw [hal st h0 xs h1 e1, hn], q1, r1, P.lat l1⟩
theorem l_call (F : FnG X.prog X.w X.K X.mg X.base k f fd ps (spL X.K cl n dl)) (c : Cs k X) (tk : Takes X W) (hg : Gl X x) (hm : X.mg x = some (.ref f)) (hk : PySem.W.keepIn X.K (.ref f) = true) (hb : Binds X.K fd ps []) (hn : (e :: es).length = n) (hal : ∀ σ h xs h', fa σ h = .ok xs h' → xs.length = (e :: es).length) (ha : SA X cl W (e :: es) fa) (hdb : (x == ("__debug__" : Str)) = false := by decide)
    (he : starEach (e :: es) X.env = (false, eval e X.env) :: starEach es X.env := by rfl) (hpl : (backTo pos (starEach es X.env)).any (·.1) = false := by rfl) : SL X cl W (.Call (.Name x p) (e :: es) [] pos) (lCall dl fa) := PE.of (go_call F c tk hg hm hk hb ha hdb he hpl) fun σ H Q p => by
  obtain ⟨φ, st, h0, S, R0, P⟩ := p
  refine ⟨φ, st, h0, S, R0, ?_⟩
  simp only [lCall] at P
  cases e1 : fa st h0 with
  | bad => simp only [e1, Rs.bind] at P; exact P
  | ex ex1 h1 => simp only [e1, Rs.bind] at P; exact P
  | ok xs h1 =>
    simp only [e1, Rs.bind] at P
    exact fun φ1 H1 vs l1 r1 q1 => ⟨φ1, xs, h1, by rw [hal st h0 xs h1 e1, hn], q1, r1, P.lat l1⟩
theorem s_call0 (F : FnG X.prog X.w X.K X.mg X.base k f fd ps (spP X.K cl 0 d)) (c : Cs k X) (tk : Takes X W) (hg : Gl X x) (hm : X.mg x = some (.ref f)) (hk : PySem.W.keepIn X.K (.ref f) = true) (hb : Binds X.K fd ps []) (hdb : (x == ("__debug__" : Str)) = false := by decide) : SE X cl W (.Call (.Name x p) [] [] pos) (eCall d aN) :=
  PE.of (go_call0 F c tk hg hm hk hb hdb) fun σ H Q ⟨φ, st, h0, S, R0, P⟩ => ⟨φ, [], h0, rfl, .nil, R0, P⟩
theorem l_call0 (F : FnG X.prog X.w X.K X.mg X.base k f fd ps (spL X.K cl 0 dl)) (c : Cs k X) (tk : Takes X W) (hg : Gl X x) (hm : X.mg x = some (.ref f)) (hk : PySem.W.keepIn X.K (.ref f) = true) (hb : Binds X.K fd ps []) (hdb : (x == ("__debug__" : Str)) = false := by decide) : SL X cl W (.Call (.Name x p) [] [] pos) (lCall dl aN) :=
  PE.of (go_call0 F c tk hg hm hk hb hdb) fun σ H Q ⟨φ, st, h0, S, R0, P⟩ => ⟨φ, [], h0, rfl, .nil, R0, P⟩
theorem al_nil : ∀ (σ : Sl) (h : Hm) (xs : List D) (h' : Hm), aN σ h = .ok xs h' → xs.length = 0 := fun σ h xs h' e => by simp [aN] at e; simp [← e.1]
theorem al_cons {m : Nat} {f : Ev} {g : Av} (q : ∀ (σ : Sl) (h : Hm) (xs : List D) (h' : Hm), g σ h = .ok xs h' → xs.length = m) : ∀ (σ : Sl) (h : Hm) (xs : List D) (h' : Hm), aC f g σ h = .ok xs h' → xs.length = m + 1 := fun σ h xs h' e => by
  simp only [aC] at e
  cases e1 : f σ h with
  | bad => simp [e1, Rs.bind] at e
  | ex _ _ => simp [e1, Rs.bind] at e
  | ok x h1 =>
    cases e2 : g σ h1 with
    | bad => simp [e1, e2, Rs.bind] at e
    | ex _ _ => simp [e1, e2, Rs.bind] at e
    | ok ys h2 =>
      simp [e1, e2, Rs.bind] at e
      rw [← e.1]
      simp [q _ _ _ _ e2]
end
end Y
end

section
set_option Elab.async false
set_option linter.all false
set_option maxRecDepth 100000
set_option maxHeartbeats 2000000
/-! YJ: repr, min, max, isqrt, gcd, t[::-1]. -/
namespace Y
open PySem PySem.Spec PyProof.Rows L2

mutual
def wid : PyData → Nat
  | .none => 4
  | .bool _ => 5
  | .int i => if i.natAbs < 10 ^ 60 then 61 else 1000000000
  | .str x => (reprText x).length
  | .list xs => widL xs + 3
  | .tuple xs => widL xs + 3
  | .dict _ => 1000000000
def widL : List PyData → Nat
  | [] => 0
  | x :: xs => wid x + 2 + widL xs
end
theorem tupleText_le (ts : List Str) : (tupleText ts).length ≤ piled ts + 3 := by
  unfold tupleText
  rw [strLen_append, strLen_append]
  have e1 : ((("(" : String) : Str)).length = 1 := rfl
  have e3 : (((if ts.length == 1 then ",)" else ")" : String) : Str)).length ≤ 2 := by split <;> decide
  rw [e1]
  by_cases h : ts = []
  · subst h
    have : (Str.join ", " []).length = 0 := rfl
    omega
  · have := join_length_add ts h
    omega
theorem textFrom_le : ∀ (ts : List Str) (k : Nat) (acc : Str), (textFrom k acc ts).length ≤ acc.length + piled ts
  | [], k, acc => by show acc.length ≤ _; omega
  | t :: r, k, acc => by
    have h := textFrom_le r (k + 1) (acc ++ (if k > 0 then ", " else "" : String) ++ t)
    have e : (acc ++ (if k > 0 then ", " else "" : String) ++ t).length ≤ acc.length + 2 + t.length := by
      rw [strLen_append, strLen_append]
      have : (((if k > 0 then ", " else "" : String) : Str)).length ≤ 2 := by split <;> decide
      omega
    rw [piled_cons]
    show (textFrom (k + 1) _ r).length ≤ _
    omega
theorem listText_le (ts : List Str) : (listText ts).length ≤ piled ts + 3 := by
  have h := textFrom_le ts 0 "["
  show (textFrom 0 "[" ts ++ "]").length ≤ _
  rw [strLen_append]
  have e1 : ((("[" : String) : Str)).length = 1 := rfl
  have e2 : ((("]" : String) : Str)).length = 1 := rfl
  omega
theorem lt60 {i : Int} (h : i.natAbs < 10 ^ 60) : i.natAbs.log2 < 1920 := by
  by_cases e : i.natAbs = 0
  · rw [e]; decide
  · have h2 : (10 ^ 60 : Nat) < 2 ^ 1920 := by decide +kernel
    exact (Nat.log2_lt e).mpr (Nat.lt_trans h h2)
mutual
theorem wid_ok : ∀ p : PyData, wid p ≤ line → p.shown.length ≤ wid p ∧ p.showable = true
  | .none, _ => ⟨by decide, by simp [PyData.showable]⟩
  | .bool b, _ => ⟨by cases b <;> decide, by simp [PyData.showable]⟩
  | .int i, h => by
    by_cases hi : i.natAbs < 10 ^ 60
    · rw [wid, if_pos hi] at *
      refine ⟨?_, by simpa [PyData.showable] using lt60 hi⟩
      have h1 := int_text_length_le10 (k := 60) (by decide) hi
      show (Str.ofString (toString i)).length ≤ 61
      rw [PySem.ofString_length]
      exact h1
    · rw [wid, if_neg hi] at h
      exact absurd h (by decide)
  | .str x, h => ⟨by simp only [PyData.shown, wid]; exact Nat.le_refl _, by simp [PyData.showable]⟩
  | .list xs, h => by
    have g := widL_ok xs (by simp only [wid] at h; omega)
    refine ⟨?_, by simpa [PyData.showable] using g.2⟩
    have := listText_le (PyData.shownAll xs)
    simp only [PyData.shown, wid]
    have := g.1
    omega
  | .tuple xs, h => by
    have g := widL_ok xs (by simp only [wid] at h; omega)
    refine ⟨?_, by simpa [PyData.showable] using g.2⟩
    have := tupleText_le (PyData.shownAll xs)
    simp only [PyData.shown, wid]
    have := g.1
    omega
  | .dict _, h => absurd h (by simp only [wid]; decide)
theorem widL_ok : ∀ ps : List PyData, widL ps ≤ line → piled (PyData.shownAll ps) ≤ widL ps ∧ PyData.showableAll ps = true
  | [], _ => ⟨Nat.le_refl _, by simp [PyData.showableAll]⟩
  | p :: ps, h => by
    simp only [widL] at h
    have g1 := wid_ok p (by omega)
    have g2 := widL_ok ps (by omega)
    refine ⟨?_, by simp [PyData.showableAll, g1.2, g2.2]⟩
    simp only [PyData.shownAll, widL, piled_cons]
    have := g1.1
    have := g2.1
    omega
end
/-- repr(x) -/
def bRepr (h : Hm) : List D → Option D
  | [d] => match py h d with
    | some p => if SeqAt.shaped p && decide (wid p ≤ line) then some (.str p.shown) else none
    | none => none
  | _ => none
def minI (ns : List Int) : Option Int := match ns with
  | [] => none
  | n :: r => some (r.foldl min n)
def maxI (ns : List Int) : Option Int := match ns with
  | [] => none
  | n :: r => some (r.foldl max n)
def bMin (h : Hm) : List D → Option D
  | [.tup xs] => ((intsOf xs).bind minI).map .int
  | [d] => ((lstOf h d).bind fun xs => (intsOf xs).bind minI).map .int
  | _ => none
def bMax (h : Hm) : List D → Option D
  | [.tup xs] => ((intsOf xs).bind maxI).map .int
  | [d] => ((lstOf h d).bind fun xs => (intsOf xs).bind maxI).map .int
  | _ => none
def bSqrt (_ : Hm) : List D → Option D
  | [.int a] => if 0 ≤ a ∧ a < big then some (.int (Float64.isqrt a.toNat : Nat)) else none
  | _ => none
def bGcd (_ : Hm) : List D → Option D
  | [.int a, .int b] => some (.int (Nat.gcd a.natAbs b.natAbs : Nat))
  | _ => none
def uRev (_ : Hm) : D → Option D
  | .tup xs => some (.tup xs.reverse)
  | _ => none
def lRev (f : Ev) : Lv := fun σ h => (f σ h).bind fun x h1 => ofO ((lstOf h1 x).map List.reverse) h1

section
variable {X : Cx} {cl : Nat → Addr} {W : WX} {e a b c : Expr} {es : List Expr} {f g q : Ev} {fa : Av} {t t' : Tv} {pos : Pos} {k : Nat}
theorem c_reprW (hu0 : X.A.units + 200 < cLine) (gd0 : X.A.guards = some []) : CaY X (.builtin "repr") bRepr := caY fun Q φ H h xs vs z R r e q => by
  rcases xs with _ | ⟨d, _ | _⟩ <;> simp only [bRepr] at e <;> try (cases e; done)
  obtain ⟨v, rfl, rd⟩ := r.one
  cases e1 : py h d with
  | none => rw [e1] at e; cases e
  | some p =>
    rw [e1] at e
    dsimp only at e
    split at e
    · rename_i hw
      cases e
      simp only [Bool.and_eq_true, decide_eq_true_eq] at hw
      have hw1 := wid_ok p hw.2
      have dp := Rep.dp d v p e1 rd
      have q' : Q (.str p.shown) H := q φ H _ (Lat.refl _ _) R (.str _)
      refine ⟨fun us H' Q' => us = [v] ∧ H' = H ∧ Q' (.str p.shown) H, ?_, rfl, rfl, q'⟩
      intro pins s σ H1 xs us Q1 I r1 hh
      obtain ⟨rfl, rfl, qq⟩ := hh
      obtain ⟨u, rfl, ru⟩ := vals1 r1
      have hsz : p.shown.length ≤ sizeLine := by rw [← line_eq]; exact Nat.le_trans hw1.1 hw.2
      cases dp with
      | non => cases ru; exact PySem.P.repr_of_none ⟨.str _, H1, I.tok _, ⟨_, rfl⟩, by simpa [PyData.shown] using qq⟩
      | bl b => cases ru; exact PySem.P.repr_of_bool ⟨.str _, H1, I.tok _, ⟨_, rfl⟩, by simpa [PyData.shown] using qq⟩
      | int i =>
        obtain ⟨t, rfl⟩ := ru
        exact PySem.P.repr_of_int (by simpa [PyData.showable] using hw1.2) ⟨.str _, H1, I.tok _, ⟨_, rfl⟩, by simpa [PyData.shown] using qq⟩
      | str x =>
        obtain ⟨t, rfl⟩ := ru
        exact PySem.P.repr_of_str ⟨.str _, H1, I.tok _, ⟨_, rfl⟩, by simpa [PyData.shown] using qq⟩ (by simpa [PyData.shown] using hsz)
      | lst hq ds =>
        obtain ⟨as, rr⟩ := Dp.reads I _ _ _ (.lst hq ds) ru
        cases ru
        have hu := hu0
        have hd := SeqAt.depth_of_shaped hw.1
        exact repr_of_reads' rr hw1.2 (PyData.noDict_hsm (PyData.hasDict_of_canLay _ (SeqAt.canLay_of_shaped hw.1))) gd0 (by omega) (fun _ _ e => e) (fun h' u tk hk => ⟨.str _, H1, I.kept hk, ⟨_, rfl⟩, qq⟩) hsz
      | tup hq ds =>
        obtain ⟨as, rr⟩ := Dp.reads I _ _ _ (.tup hq ds) ru
        cases ru
        have hu := hu0
        have hd := SeqAt.depth_of_shaped hw.1
        exact repr_of_reads' rr hw1.2 (PyData.noDict_hsm (PyData.hasDict_of_canLay _ (SeqAt.canLay_of_shaped hw.1))) gd0 (by omega) (fun _ _ e => e) (fun h' u tk hk => ⟨.str _, H1, I.kept hk, ⟨_, rfl⟩, qq⟩) hsz
    · cases e
theorem c_repr (c0 : Cs k X) : CaY X (.builtin "repr") bRepr := c_reprW (by have := c0.room.un; omega) c0.gd
theorem alike_ints (ns : List Int) : PySem.W.AlikeAll (ns.map PyData.int) := by
  refine ⟨fun x hx y hy => ?_, fun x hx => ?_⟩
  · obtain ⟨i, _, rfl⟩ := List.mem_map.mp hx
    obtain ⟨j, _, rfl⟩ := List.mem_map.mp hy
    rfl
  · obtain ⟨i, _, rfl⟩ := List.mem_map.mp hx
    exact fun h => by cases h
theorem depth_ints : ∀ ns : List Int, PyData.depthAll (ns.map PyData.int) = 0
  | [] => rfl
  | n :: ns => by simp [PyData.depthAll, PyData.depth, depth_ints ns]
theorem reads_ints {h : Heap} : ∀ (ns : List Int) (us : List Value), Vals (ns.map V.int) us → ∃ as, ReadsAll h us (ns.map PyData.int) as
  | [], us, r => by cases r; exact ⟨_, .nil⟩
  | n :: ns, us, r => by
    cases r with
    | cons r1 r2 =>
      obtain ⟨as, hh⟩ := reads_ints ns _ r2
      obtain ⟨t, rfl⟩ := r1
      exact ⟨_, .cons (.int n t) hh⟩
theorem c_min (c0 : Cs k X) : CaY X (.builtin "min") bMin := caY fun Q φ H h xs vs z R r e q => by
  rcases xs with _ | ⟨d, _ | _⟩ <;> try (simp only [bMin] at e <;> cases e; done)
  obtain ⟨v, rfl, rd⟩ := r.one
  have fin : ∀ (a : Addr) (ds : List D) (vs : List V), v = .ref a → SqL X.K H a vs ∨ SqT X.K H a vs → RepL X.K φ H ds vs → ((intsOf ds).bind minI).map D.int = some z → ∃ r, CallR X (.builtin "min") r ∧ r [v] H Q := by
    intro a ds vs ev hq rr ez
    subst ev
    obtain ⟨m, e1, rfl⟩ := Option.map_eq_some_iff.mp ez
    obtain ⟨ns, e2, e3⟩ := Option.bind_eq_some_iff.mp e1
    have e4 := rr.intsOf e2
    subst e4
    cases ns with
    | nil => cases e3
    | cons n ns =>
      cases e3
      have q' : Q (.int (ns.foldl min n)) H := q φ H _ (Lat.refl _ _) R (.int _)
      refine ⟨fun us H' Q' => us = [.ref a] ∧ H' = H ∧ Q' (.int (ns.foldl min n)) H, ?_, rfl, rfl, q'⟩
      intro pins s σ H1 xs us Q1 I r1 hh
      obtain ⟨rfl, rfl, qq⟩ := hh
      rw [Vals.ref1 r1]
      have hu := c0.room.un
      have hd := depth_ints (n :: ns)
      have ha := alike_ints (n :: ns)
      simp only [List.map_cons] at ha hd
      have goal : ∀ (i : Nat) v h' tk bs, Reads h' v (PySem.W.minD (.int n) (ns.map .int)) bs → (∀ b o, s.heap.get? b = some o → h'.get? b = some o) → EP X pins σ Q1 v { s with heap := h', toks := tk } := by
        intro i v h' tk bs rr hk
        rw [PySem.W.minD_ints] at rr
        cases rr
        exact ⟨.int _, H1, I.kept hk, ⟨_, rfl⟩, qq⟩
      rcases hq with hq | hq
      · obtain ⟨its, rv, hl, hz⟩ := I.list hq
        obtain ⟨as, hr⟩ := reads_ints (h := s.heap) (n :: ns) its rv
        exact PySem.W.min_list_data c0.room.hd hl.isList (by simpa using hr) ha (by rw [hd]; omega) fun i v h' tk bs _ h2 h3 => goal i v h' tk bs h2 h3
      · obtain ⟨its, rv, hl, hz⟩ := I.tuple hq
        obtain ⟨as, hr⟩ := reads_ints (h := s.heap) (n :: ns) its rv
        exact PySem.W.min_tuple_data c0.room.hd hl (by simpa using hr) ha (by rw [hd]; omega) fun i v h' tk bs _ h2 h3 => goal i v h' tk bs h2 h3
  have lsts : ((lstOf h d).bind fun xs => (intsOf xs).bind minI).map D.int = some z → ∃ r, CallR X (.builtin "min") r ∧ r [v] H Q := fun e => by
    obtain ⟨m, e1, e2⟩ := Option.map_eq_some_iff.mp e
    obtain ⟨ys, e3, e4⟩ := Option.bind_eq_some_iff.mp e1
    obtain ⟨a, us, rfl, hq, rr⟩ := lst_at R rd e3
    exact fin a ys us rfl (.inl hq) rr (by rw [e4]; exact congrArg some e2)
  cases d
  case tup xs =>
    cases rd with
    | tup hq rr => exact fin _ _ _ rfl (.inr (SqT.of hq)) rr e
  all_goals exact lsts e
theorem c_max (c0 : Cs k X) : CaY X (.builtin "max") bMax := caY fun Q φ H h xs vs z R r e q => by
  rcases xs with _ | ⟨d, _ | _⟩ <;> try (simp only [bMax] at e <;> cases e; done)
  obtain ⟨v, rfl, rd⟩ := r.one
  have fin : ∀ (a : Addr) (ds : List D) (vs : List V), v = .ref a → SqL X.K H a vs ∨ SqT X.K H a vs → RepL X.K φ H ds vs → ((intsOf ds).bind maxI).map D.int = some z → ∃ r, CallR X (.builtin "max") r ∧ r [v] H Q := by
    intro a ds vs ev hq rr ez
    subst ev
    obtain ⟨m, e1, rfl⟩ := Option.map_eq_some_iff.mp ez
    obtain ⟨ns, e2, e3⟩ := Option.bind_eq_some_iff.mp e1
    have e4 := rr.intsOf e2
    subst e4
    cases ns with
    | nil => cases e3
    | cons n ns =>
      cases e3
      have q' : Q (.int (ns.foldl max n)) H := q φ H _ (Lat.refl _ _) R (.int _)
      refine ⟨fun us H' Q' => us = [.ref a] ∧ H' = H ∧ Q' (.int (ns.foldl max n)) H, ?_, rfl, rfl, q'⟩
      intro pins s σ H1 xs us Q1 I r1 hh
      obtain ⟨rfl, rfl, qq⟩ := hh
      rw [Vals.ref1 r1]
      have hu := c0.room.un
      have hd := depth_ints (n :: ns)
      have ha := alike_ints (n :: ns)
      simp only [List.map_cons] at ha hd
      have goal : ∀ (i : Nat) v h' tk bs, Reads h' v (PySem.W.maxD (.int n) (ns.map .int)) bs → (∀ b o, s.heap.get? b = some o → h'.get? b = some o) → EP X pins σ Q1 v { s with heap := h', toks := tk } := by
        intro i v h' tk bs rr hk
        rw [PySem.W.maxD_ints] at rr
        cases rr
        exact ⟨.int _, H1, I.kept hk, ⟨_, rfl⟩, qq⟩
      rcases hq with hq | hq
      · obtain ⟨its, rv, hl, hz⟩ := I.list hq
        obtain ⟨as, hr⟩ := reads_ints (h := s.heap) (n :: ns) its rv
        exact PySem.W.max_list_data c0.room.hd hl.isList (by simpa using hr) ha (by rw [hd]; omega) fun i v h' tk bs _ h2 h3 => goal i v h' tk bs h2 h3
      · obtain ⟨its, rv, hl, hz⟩ := I.tuple hq
        obtain ⟨as, hr⟩ := reads_ints (h := s.heap) (n :: ns) its rv
        exact PySem.W.max_tuple_data c0.room.hd hl (by simpa using hr) ha (by rw [hd]; omega) fun i v h' tk bs _ h2 h3 => goal i v h' tk bs h2 h3
  have lsts : ((lstOf h d).bind fun xs => (intsOf xs).bind maxI).map D.int = some z → ∃ r, CallR X (.builtin "max") r ∧ r [v] H Q := fun e => by
    obtain ⟨m, e1, e2⟩ := Option.map_eq_some_iff.mp e
    obtain ⟨ys, e3, e4⟩ := Option.bind_eq_some_iff.mp e1
    obtain ⟨a, us, rfl, hq, rr⟩ := lst_at R rd e3
    exact fin a ys us rfl (.inl hq) rr (by rw [e4]; exact congrArg some e2)
  cases d
  case tup xs =>
    cases rd with
    | tup hq rr => exact fin _ _ _ rfl (.inr (SqT.of hq)) rr e
  all_goals exact lsts e
theorem c_sqrt : CaY X (.builtin "math.isqrt") bSqrt := caY fun Q φ H h xs vs z R r e q => by
  rcases xs with _ | ⟨d, _ | _⟩ <;> try (simp only [bSqrt] at e <;> cases e; done)
  obtain ⟨v, rfl, rd⟩ := r.one
  cases rd <;> simp only [bSqrt] at e <;> try (cases e; done)
  rename_i a
  split at e
  · rename_i hz
    cases e
    have q' : Q (.int (Float64.isqrt a.toNat : Nat)) H := q φ H _ (Lat.refl _ _) R (.int _)
    refine ⟨fun us H' Q' => us = [.int a] ∧ H' = H ∧ Q' (.int (Float64.isqrt a.toNat : Nat)) H, ?_, rfl, rfl, q'⟩
    intro pins s σ H1 xs us Q1 I r1 hh
    obtain ⟨rfl, rfl, qq⟩ := hh
    obtain ⟨u, rfl, t, rfl⟩ := vals1 r1
    exact PySem.W.mg_isqrt hz.1 hz.2 ⟨.int _, H1, I.tok _, ⟨_, rfl⟩, qq⟩
  · cases e
theorem c_gcd : CaY X (.builtin "math.gcd") bGcd := caY fun Q φ H h xs vs z R r e q => by
  have key : ∃ a b, xs = [.int a, .int b] ∧ z = .int (Nat.gcd a.natAbs b.natAbs : Nat) := by
    unfold bGcd at e
    split at e
    · cases e; exact ⟨_, _, rfl, rfl⟩
    · cases e
  obtain ⟨a, b, rfl, rfl⟩ := key
  cases r with
  | cons r1 r2 =>
    cases r2 with
    | cons r3 r4 =>
      cases r4
      cases r1
      cases r3
      exact ⟨_, cr_gcd, _, _, rfl, q φ H _ (Lat.refl _ _) R (.int _)⟩
/-- f(e, ..), f a module's name for a built-in function -/
theorem s_bM {x : Str} {id : String} {p : Pos} {o : Hm → List D → Option D} (hc : CaY X (.builtin id) o) (hg : Gl X x) (hm : X.mg x = some (.builtin id)) (ha : SA X cl W (e :: es) fa) (hdb : (x == ("__debug__" : Str)) = false := by decide)
    (he : starEach (e :: es) X.env = (false, eval e X.env) :: starEach es X.env := by rfl) (hpl : (backTo pos (starEach es X.env)).any (·.1) = false := by rfl) : SE X cl W (.Call (.Name x p) (e :: es) [] pos) (eB o fa) := PE.of (pe_callBfun hc hg hm ha hdb he hpl) fun σ H Q p =>
  seq1 (k := fun xs h1 => ofO (o h1 xs) h1) p fun φ H1 h1 xs vs R r P => ⟨cl, fun c d H' => W c d σ H', φ, h1, xs, R, r, P⟩
/-! ### t[::-1] -/
theorem fm_congr {α β : Type} {f g : α → Option β} : ∀ (l : List α), (∀ x ∈ l, f x = g x) → l.filterMap f = l.filterMap g
  | [], _ => rfl
  | x :: l, h => by
    have h1 := h x List.mem_cons_self
    have h2 := fm_congr l fun y hy => h y (List.mem_cons_of_mem _ hy)
    simp only [List.filterMap_cons, h1, h2]
theorem pick_rev (xs : Array Value) : ((List.range xs.size).filterMap fun (m : Nat) => xs[((xs.size : Int) - 1 + (m : Int) * (-1)).toNat]?).toArray = xs.toList.reverse.toArray := by
  rw [← PySem.W.krv_pick]
  unfold slicePick
  rw [PySem.W.krv_bounds]
  show _ = ((sliceRange ((xs.size : Int) - 1) (-1) (-1)).filterMap (xs[·]?)).toArray
  rw [PySem.W.krv_sliceRange, List.filterMap_map]
  congr 1
  refine fm_congr _ fun m hm => ?_
  have hm := List.mem_range.mp hm
  have e : ((xs.size : Int) - 1 + (m : Int) * (-1)).toNat = xs.size - 1 - m := by omega
  rw [e]
  rfl
end
section
variable {prog : Program} {w : World} {A : Around} {E : Value → Shared → Prop} {s : Shared}
theorem placesR (n : Nat) : Builtin.Slice.slicePlaces ((n : Int) - 1) (-1) (-1) = n := by
  unfold Builtin.Slice.slicePlaces
  rw [if_neg (by decide)]
  by_cases h : (n : Int) - 1 > -1
  · rw [if_pos h]
    have : ((n : Int) - 1 - -1 - 1) / (- -1) + 1 = n := by
      rw [show (- -1 : Int) = 1 by decide, Int.ediv_one]; omega
    rw [this]; rfl
  · rw [if_neg h]
    have : n = 0 := by omega
    subst this; rfl
theorem appliedR {sl : Addr} {vs : Value} {n : Nat} {Q : Int × Int × Nat → Shared → Prop} (hs : s.heap.IsSliceOf sl .none .none vs) (ps : IsPart vs (some (-1))) (h : Q ((n : Int) - 1, -1, n) s) :
    wpAny (model prog w) A (Builtin.Slice.sliceApplied (.ref sl) (pure (n : Int))) Q E s := by
  obtain ⟨o, ho, _, hd⟩ := id hs
  unfold Builtin.Slice.sliceApplied Builtin.Slice.sliceFields
  refine wpAny_bind (wpAny_bind (wpAny_field ho hd (x := .none) rfl (wpAny_bind (wpAny_field ho hd (x := .none) rfl (wpAny_bind (wpAny_field ho hd (x := vs) rfl (wpAny_pure ?_)))))))
  refine wpAny_bind (HT.slicePart_ ps ?_)
  show wpAny _ _ (if ((-1 : Int) == 0) = true then _ else _) _ _ s
  rw [if_neg (by decide)]
  refine wpAny_bind (slicePart_none (wpAny_bind (slicePart_none (wpAny_bind (wpAny_pure ?_)))))
  show wpAny _ _ (pure ((n : Int) - 1, (-1 : Int), Builtin.Slice.slicePlaces ((n : Int) - 1) (-1) (-1))) _ _ s
  rw [placesR]
  exact wpAny_pure h
theorem get_tup_rev {t sl : Addr} {items : Array Value} {vs : Value} {Q : Value → Shared → Prop} (ht : IsTup s.heap t items) (hs : s.heap.IsSliceOf sl .none .none vs) (ps : IsPart vs (some (-1)))
    (h : Q (.ref s.heap.objs.size) { s with heap := s.heap.push { cls := .type "tuple", data := .seq items.toList.reverse.toArray } }) (hsz : items.size ≤ sizeLine) : wpAny (model prog w) A (getItem (.ref t) (.ref sl)) Q E s := by
  obtain ⟨o, ho, hc, hd⟩ := id hs
  have T : s.TypeIs (.ref sl) "slice" := ⟨o, ho, hc⟩
  unfold getItem
  with_reducible refine wpAny_holding ?_
  first | refine wpAny_bind (wpAny_pure ?_) | skip
  refine wpAny_bind (wpAny_sequenceKey ht.typeIs (by decide) (wpAny_bind (wpAny_callSpecial?_slot (name := Str.ofString "__getitem__") ht.typeIs PyProof.Rows.slot_tuple_getitem (wpAny_call_entry PyProof.Rows.slot_tuple_getitem ht.typeIs PyProof.Rows.entry_tuple_getitem ?_ (PyProof.Rows.args_tuple_getitem _ _)))))
  show wpAny _ _ (Builtin.Tuple.tupleItemsOf (.ref t) >>= _) _ _ s
  refine wpAny_bind (tupleItemsOf_ ht (wpAny_bind (wpAny_typeOf T ?_)))
  rw [if_pos (by decide)]
  refine wpAny_bind (appliedR hs ps ?_)
  have no : ¬ ((((items.size : Int) - 1 == 0) && (-1 : Int) == 1 && items.size == items.size) = true) := by
    intro q
    rw [Bool.and_eq_true, Bool.and_eq_true] at q
    exact absurd q.1.2 (by decide)
  show wpAny _ _ (if ((((items.size : Int) - 1 == 0) && (-1 : Int) == 1 && items.size == items.size) = true) then _ else _) _ _ s
  rw [if_neg no, pick_rev]
  have sz : sizeOk (.seq items.toList.reverse.toArray) := by
    show items.toList.reverse.toArray.size ≤ sizeLine
    simpa using hsz
  first
    | exact wpAny_bind (m := Builtin.Tuple.tupleExact _) (wpAny_newObj_type (wpAny_pure ⟨_, rfl, wpAny_pure h⟩) sz)
    | exact wpAny_bind (m := Builtin.Tuple.tupleExact _) (wpAny_newObj_type (wpAny_bind (wpAny_pure (wpAny_pure ⟨_, rfl, wpAny_pure h⟩))) sz)
    | exact wpAny_bind (wpAny_bind (m := Builtin.Tuple.tupleExact _) (wpAny_newObj_type (wpAny_pure (wpAny_pure ⟨_, rfl, wpAny_pure h⟩)) sz))
    | exact wpAny_bind (wpAny_bind (m := Builtin.Tuple.tupleExact _) (wpAny_newObj_type (wpAny_pure ⟨_, rfl, wpAny_pure h⟩) sz))
end
section
variable {X : Cx} {cl : Nat → Addr} {W : WX} {e a b c : Expr} {es : List Expr} {f g q : Ev} {fa : Av} {t t' : Tv} {pos : Pos} {k : Nat}
theorem RepL.rev {K : PySem.W.Frag} {φ : List Addr} {H : Hp} : ∀ {ds : List D} {vs : List V}, RepL K φ H ds vs → RepL K φ H ds.reverse vs.reverse
  | [], _, r => by cases r; exact .nil
  | d :: ds, _, r => by
    cases r with
    | cons h r => simpa using (RepL.rev r).append (.cons h .nil)
def tRevT (K : PySem.W.Frag) (te : TE) : TE := fun σ H Q => te σ H fun x H1 => ∃ a xs, x = .ref a ∧ SqT K H1 a xs ∧ ∀ p, H1 p = none → Q (.ref p) (upd H1 p (.tup xs.reverse))
theorem pe_revT {te : TE} {kk : Nat} {p1 p2 p3 : Pos} (he : PE X e te) : PE X (.Subscript e (.Slice none none (some (.UnaryOp .USub (.Constant (.int 1) kk p1) p2)) p3) pos) (tRevT X.K te) := by
  refine ⟨fun pins s σ H Q I h => ?_⟩
  refine Subscript_ (thn (he.run pins s σ H _ I h) fun v s1 ⟨x, H1, I1, r1, a, xs, ex, hx, q⟩ => ?_)
  subst ex
  cases r1
  have st : PO X (some (.UnaryOp .USub (.Constant (.int 1) kk p1) p2)) (tPart (tUn (rU fun i => .int (-i)) (L2.tC (.int 1)))) := po_some (pe_un un_neg pe_int)
  refine wpAny_Slice (thn (po_none.run pins s1 σ H1 (fun o H2 => o = none ∧ H2 = H1) I1 ⟨rfl, rfl⟩) fun vl s2 ⟨l, H2, I2, pl, el, e2⟩ => ?_)
  subst el e2
  cases pl
  refine thn (po_none.run pins s2 σ H2 (fun o H3 => o = none ∧ H3 = H2) I2 ⟨rfl, rfl⟩) fun vu s3 ⟨u, H3, I3, pu, eu, e3⟩ => ?_
  subst eu e3
  cases pu
  refine thn (st.run pins s3 σ H3 (fun o H4 => o = some (-1) ∧ H4 = H3) I3 ⟨1, rfl, -1, rfl, rfl, rfl⟩) fun vs s4 ⟨o, H4, I4, ps, eo, e4⟩ => ?_
  subst eo e4
  have I5 : Inv X pins σ H4 { s4 with heap := s4.heap.push { cls := .type "slice", data := .fields #[.none, .none, vs] } } := I4.kept (t' := s4.toks) fun b ob q => Heap.get?_push_of_some _ q
  obtain ⟨its, r, ht, hz⟩ := I5.tuple hx
  have hlen := r.length
  show wpAny (model X.prog X.w) X.A (subscriptTail e (.Slice none none (some (.UnaryOp .USub (.Constant (.int 1) kk p1) p2)) p3) (.ref a) (.ref s4.heap.objs.size)) (EP X pins σ Q) X.xe { s4 with heap := s4.heap.push { cls := .type "slice", data := .fields #[.none, .none, vs] } }
  refine tail_any (ops := [.ref a, .ref s4.heap.objs.size]) ht.typeIs (PyProof.Rows.slot_tuple_getitem.lookup) ?_ (by with_unfolding_all rfl)
  refine get_tup_rev ht (Heap.IsSliceOf.new _ .none .none vs) ps ?_ (by rw [List.size_toArray]; omega)
  refine ⟨.ref _, _, I5.laid (t' := s4.toks) (o := .tup xs.reverse) (fun b ob q => Heap.get?_push_of_some _ q) (Nat.le_refl _) ?_, rfl, q _ (I5.hok.fresh (Nat.le_refl _))⟩
  exact ⟨by rw [List.length_reverse]; exact hz, _, r.reverse, IsTup.new _ _⟩
theorem s_revT {kk : Nat} {p1 p2 p3 : Pos} (ha : SE X cl W a f) : SE X cl W (.Subscript a (.Slice none none (some (.UnaryOp .USub (.Constant (.int 1) kk p1) p2)) p3) pos) (e1 uRev f) := PE.of (pe_revT ha) fun σ H Q p => by
  refine seq1 (k := fun x h1 => ofO (uRev h1 x) h1) p fun φ H1 h1 x v R rx P => ?_
  cases rx <;> simp only [uRev, ofO] at P <;> try (exact P.elim)
  rename_i hq rr
  exact ⟨_, _, rfl, SqT.of hq, fun p hp => P φ _ _ (Lat.new hp) (R.new hp) (.tup upd_same (RepL.mono (List.prefix_refl _) (Per.new hp) _ _ (RepL.rev rr)))⟩
end
end Y
end

section
set_option Elab.async false
set_option linter.all false
set_option maxRecDepth 100000
set_option maxHeartbeats 2000000
/-! YK: the law's end. -/
namespace Y
open PySem PySem.Spec PyProof.Rows L2

/-- the script alone is tracked, or nothing -/
def scrH (t : Bool) (a : Addr) (vs : List Value) (ns : List Int) : Hp := fun b => if t = true ∧ b = a then some (.frz { cls := .type "list", data := .seq vs.toArray } (.lst (ns.map V.int))) else none
theorem scr_some {t : Bool} {a b : Addr} {vs : List Value} {ns : List Int} {u : HO} (e : scrH t a vs ns b = some u) : t = true ∧ b = a ∧ u = .frz { cls := .type "list", data := .seq vs.toArray } (.lst (ns.map V.int)) := by
  unfold scrH at e
  split at e
  · rename_i h; cases e; exact ⟨h.1, h.2, rfl⟩
  · cases e
theorem scr_at {a : Addr} {vs : List Value} {ns : List Int} : scrH true a vs ns a = some (.frz { cls := .type "list", data := .seq vs.toArray } (.lst (ns.map V.int))) := by simp [scrH]
section
variable {P : Program} {w : World} {K : PySem.W.Frag} {mg mb : Str → Option Value} {k : Nat} {fa a : Addr} {fd : FuncData} {x : Str} {s₁ : Shared} {vs : List Value} {ns : List Int} {d : Fn} {cl : Nat → Addr}
/-- what the law's def must do: True, whatever the script -/
def LawTrue (d : Fn) (ns : List Int) : Prop := ∃ h, d [.sq (ns.map .int)] [] = .ok (.bl true) h
theorem rep_ints (φ : List Addr) (H : Hp) : ∀ ns : List Int, RepL K φ H (ns.map D.int) (ns.map V.int)
  | [] => .nil
  | n :: ns => .cons (.int n) (rep_ints φ H ns)
theorem law_run (KX : K.In s₁.heap) (gm : s₁.heap.Ns mainGlobals mg) (gb : s₁.heap.Ns builtinsNs mb) (bb : ∀ x : Str, x ≠ "__name__" → mb x = bootBuiltins x) (nl : s₁.heap.NoLimit) (g0 : s₁.gens = #[])
    (ea : s₁.heap.get? a = some { cls := .type "list", data := .seq vs.toArray }) (ai : IntsAre vs ns) (le : ns.length ≤ sizeLine) (rm : Room k callerA)
    (F : ∀ base : Heap, K.In base → base.Ns mainGlobals mg → FnG P w K mg base k fa fd [x] (spP K cl 1 d)) (bi : ∀ (s : Shared) (u : Value), BindsTo s fd ⟨[u], []⟩ [(x, u)]) (T : LawTrue d ns) :
    codeAny (model P w) callerA (.call (.ref fa) ⟨[.ref a], []⟩) (fun r s' => r = .ok (.ret (.bool true)) ∧ OldK s₁.heap s'.heap ∧ s'.os = s₁.os ∧ AllBare s'.gens) s₁ := by
  have rv := vals_ints ai
  have len := ai.length
  have main : ∀ t : Bool, (t = true → K.lookup a = none) → FzL K (scrH t a vs ns) a (ns.map V.int) → codeAny (model P w) callerA (.call (.ref fa) ⟨[.ref a], []⟩) (fun r s' => r = .ok (.ret (.bool true)) ∧ OldK s₁.heap s'.heap ∧ s'.os = s₁.os ∧ AllBare s'.gens) s₁ := by
    intro t ht hz
    have old : ∀ {b : Addr} {o : Obj}, s₁.heap.get? b = some o → scrH t a vs ns b = none → (hidT s₁.heap (scrH t a vs ns)).get? b = some o := fun e n => hidT_get e n
    have free : ∀ {b : Addr} {o : Obj}, s₁.heap.get? b = some o → o ≠ { cls := .type "list", data := .seq vs.toArray } → scrH t a vs ns b = none := fun {b o} e z => by
      cases q : scrH t a vs ns b with
      | none => rfl
      | some u =>
        obtain ⟨_, rfl, _⟩ := scr_some q
        rw [ea] at e
        exact absurd (Option.some.inj e).symm z
    have nsv : ∀ {b : Addr} {m : Str → Option Value}, s₁.heap.Ns b m → (hidT s₁.heap (scrH t a vs ns)).Ns b m := fun {b m} ⟨o, es, ep, e, dd, r⟩ => ⟨o, es, ep, old e (free e fun z => by rw [z] at dd; cases dd), dd, r⟩
    have KB : K.In (hidT s₁.heap (scrH t a vs ns)) := fun b o e => old (KX b o e) (by
      cases q : scrH t a vs ns b with
      | none => rfl
      | some u =>
        obtain ⟨z, rfl, _⟩ := scr_some q
        rw [ht z] at e
        cases e)
    have ok : HOk P w (scrH t a vs ns) s₁.heap := fun b u e => by
      obtain ⟨_, rfl, rfl⟩ := scr_some e
      exact ⟨ea, by rw [List.length_map]; exact le, vs, _, rv, ea⟩
    have env : Env0 P w K mg (hidT s₁.heap (scrH t a vs ns)) callerA [] s₁ (scrH t a vs ns) :=
      ⟨rfl, ⟨KB, nsv gm, ⟨mb, nsv gb, bb⟩, let ⟨m, h1, h2⟩ := nl; ⟨m, nsv h1, h2⟩⟩, fun b o e => of_hidT e, Nat.le_of_eq (hidT_size _ _), trivial, fun b hb => absurd (show b ∈ ([] : List Addr) from hb) (by simp), ok, .of_eq g0⟩
    obtain ⟨h1, e1⟩ := T
    have wish : spP K cl 1 d [.ref a] (scrH t a vs ns) (fun v _ => v = .bl true) (fun _ _ _ => False) := by
      refine ⟨[], [.sq (ns.map D.int)], [], rfl, .cons (.sq hz (rep_ints _ _ ns)) .nil, ⟨rfl, .nil, fun k a o e => by simp at e⟩, ?_⟩
      rw [e1]
      intro φ' H' v _ _ r
      cases r
      rfl
    refine codeAny_mono ((F _ KB (nsv gm)).run callerA [] s₁ (scrH t a vs ns) ⟨[.ref a], []⟩ [.ref a] [.ref a] _ _ rm rfl env (bi s₁ (.ref a)) (.cons rfl .nil) wish) fun r s' h => ?_
    cases r with
    | error e =>
      obtain ⟨_, _, _, _, _, _, _, _, _, _, _, _, z⟩ := h
      exact z.elim
    | ok fl =>
      cases fl with
      | ret u =>
        obtain ⟨v, H', eo, br, un, ok', ru, rfl⟩ := h
        obtain rfl : u = Value.bool true := ru
        refine ⟨rfl, OldK.of_keep fun b o e => ?_, eo, br⟩
        cases q : scrH t a vs ns b with
        | none => exact un.keep b o e q (fun z => absurd (show b ∈ ([] : List Addr) from z) (by simp)) (by simp)
        | some u =>
          obtain ⟨z1, rfl, rfl⟩ := scr_some q
          obtain ⟨e3, _⟩ := ok' b _ (un.frzs b _ _ q)
          rw [ea] at e
          cases e
          exact e3
      | next => exact False.elim h
      | brk => exact False.elim h
      | cont => exact False.elim h
  cases hk : K.lookup a with
  | none => exact main true (fun _ => hk) (.inl ⟨_, scr_at⟩)
  | some o =>
    have e := KX a o hk
    rw [ea] at e
    cases e
    exact main false (fun z => nomatch z) (.inr (.inr ⟨_, vs.toArray, _, hk, rfl, rfl, rfl, by rw [List.size_toArray, len]; exact le, by simpa using rv⟩))
theorem walkG {l : PySem.W.OpenLaw} {n k : Nat} {q : Program} {loose : List Str} {XP : (Str → Option Value) → Heap → Prop} {YP : World → Heap → Prop} {dr : DefRec} {K : Params → PySem.W.Frag} {x : Str} {d : Fn} (hn : l.most = some n) (hz : n ≤ sizeLine) (df : dr.params.defaults = []) (rm : Room k callerA)
    (hY : ∀ (w : World) (h : Heap), YP w h → (K w.params).In h) (T : ∀ ns : List Int, ns.length ≤ n → LawTrue d ns)
    (F : ∀ (w : World) (mg : Str → Option Value) (fa : Addr) (h : Heap), (K w.params).In h → h.Ns mainGlobals mg → mg dr.name = some (.ref fa) →
      ∃ (fd : FuncData) (cl : Nat → Addr), (∀ (s : Shared) (u : Value), BindsTo s fd ⟨[u], []⟩ [(x, u)]) ∧ ∀ base : Heap, (K w.params).In base → base.Ns mainGlobals mg → FnG l.prog w (K w.params) mg base k fa fd [x] (spP (K w.params) cl 1 d)) :
    PySem.W.WalkO q loose XP YP l.row.toRowW dr [] (fun f vs => PySem.call f vs) := by
  refine Att.attach_call hn df fun w s₀ s₁ mg mb fa o pm cd doc a vs ns G Y _ _ _ em ea ai le g0 => ?_
  have KX := hY w _ Y
  obtain ⟨fd, cl, b, f⟩ := F w mg fa _ KX G.T.g em
  exact law_run KX G.T.g G.T.b G.T.builtins G.T.nolimit g0 ea ai (Nat.le_trans le hz) rm f b (T ns le)
end
end Y
end

section
set_option Elab.async false
set_option linter.all false
set_option maxRecDepth 100000
set_option maxHeartbeats 2000000
/-! YL: what a generator prints with. -/
namespace Y
open PySem PySem.Spec PyProof.Rows L2

/-- any sequence that is never changed, walked -/
def iA (f : Ev) : Iv := fun σ h => (f σ h).bind fun x h1 => match x with
  | .tup xs => .ok xs h1
  | .fl xs => .ok xs h1
  | .sq xs => .ok xs h1
  | _ => .bad
section
variable {X : Cx} {cl : Nat → Addr} {W : WX} {tg e a b : Expr} {f : Ev} {fa : Av} {pos : Pos} {k : Nat}
theorem pi_seq {te : TE} (he : PE X e te) : PI X tg e (fun σ H R => te σ H fun x H1 => ∃ a, x = .ref a ∧ (((∃ xs, SqL X.K H1 a xs) ∧ R (Itl X.K a) H1) ∨ ((∃ xs, SqT X.K H1 a xs) ∧ R (Itt X.K a) H1))) := by
  refine ⟨fun pins s σ H R I h => thn (he.run pins s σ H _ I h) fun v s1 ⟨x, H1, I1, r1, a, ex, q⟩ => ?_⟩
  subst ex
  cases r1
  rcases q with ⟨⟨xs, hq⟩, q⟩ | ⟨⟨xs, hq⟩, q⟩
  · obtain ⟨its, rv, p, hz⟩ := I1.list hq
    refine wpAny_pyIter_list p.isList ?_
    exact pi_one (tk := s1.toks) I1 _ (turn_list a _) ⟨_, Heap.get?_push_size _ rfl, rfl, rfl⟩ q
  · obtain ⟨its, rv, p, hz⟩ := I1.tuple hq
    refine wpAny_pyIter_tuple (show s1.heap.IsTuple a its.toArray from p) ?_
    exact pi_one (tk := s1.toks) I1 _ (turn_tuple a _) ⟨_, Heap.get?_push_size _ rfl, rfl, rfl⟩ q
theorem i_any (ha : SE X cl W e f) : SI X cl W tg e (iA f) := PI.of (pi_seq ha) fun σ H R p =>
  seqI (R1 := RR X.K) (k := fun x h1 => match x with | .tup xs => .ok xs h1 | .fl xs => .ok xs h1 | .sq xs => .ok xs h1 | _ => .bad) p (fun φ H1 h1 x v ds h2 R1 r e q => by
    cases x <;> simp at e
    · obtain ⟨rfl, rfl⟩ := e
      cases r with
      | tup hq rr => exact ⟨_, rfl, .inr ⟨⟨_, SqT.of hq⟩, q _ R1 (drv_tup (SqT.of hq) rr)⟩⟩
    · obtain ⟨rfl, rfl⟩ := e
      cases r with
      | fl hq rr => exact ⟨_, rfl, .inl ⟨⟨_, .inl (.inr ⟨_, hq⟩)⟩, q _ R1 (drv_lst (fun H' p => .inl (.inr ⟨_, p.frz _ _ _ hq⟩)) rr)⟩⟩
    · obtain ⟨rfl, rfl⟩ := e
      cases r with
      | sq hq rr => exact ⟨_, rfl, .inl ⟨⟨_, hq.sq⟩, q _ R1 (drv_lst (fun H' p => (hq.per p).sq) rr)⟩⟩) fun x h1 => by cases x <;> simp

theorem drv_own {K : PySem.W.Frag} {φ : List Addr} {H : Hp} {n : Nat} {p : Addr} {ds : List D} (hk : φ[n]? = some p) : DrvG K φ H (gd (some n) ds) (Itl K p) ds := fun φ' H' h l R hg => by
  have hk' := pre_get l.pre hk
  have hg' : h[n]? = some (.lst ds) := of_decide_eq_true hg
  obtain ⟨ob, h1, h2⟩ := R.at hk'
  rw [hg'] at h1
  cases h1
  cases h2 with
  | lst hh rr =>
    rename_i vs
    refine ⟨fun i d e => ?_, vs, .of hh, by rw [rr.length]; exact Nat.le_refl _⟩
    obtain ⟨v, q1, q2⟩ := rr.get e
    refine ⟨⟨vs, v, .of hh, q1⟩, fun x H2 y => ?_⟩
    obtain ⟨rfl, y⟩ := y
    have ev := y vs (.of hh)
    rw [q1] at ev
    cases ev
    exact ⟨Lat.refl _ _, R, q2⟩
theorem i_X (ha : SE X cl W e f) : SI2 X cl W tg e (iX f) := PI.of (pi_seq ha) fun σ H R p => by
  obtain ⟨φ, st, h0, S, R0, P⟩ := p
  refine ⟨φ, st, h0, S, R0, ?_⟩
  simp only [iX] at P
  cases e : f st h0 with
  | bad => simp only [e, Rs.bind] at P
  | ex _ _ => simp only [e, Rs.bind] at P; exact P
  | ok x h1 =>
    simp only [e, Rs.bind] at P
    intro φ1 H1 v l1 r1 q1
    cases q1 with
    | tup hq rr => exact ⟨_, rfl, .inr ⟨⟨_, SqT.of hq⟩, P φ1 H1 _ l1 r1 (Drv.g (drv_tup (SqT.of hq) rr))⟩⟩
    | fl hq rr => exact ⟨_, rfl, .inl ⟨⟨_, .inl (.inr ⟨_, hq⟩)⟩, P φ1 H1 _ l1 r1 (Drv.g (drv_lst (fun H' p => .inl (.inr ⟨_, p.frz _ _ _ hq⟩)) rr))⟩⟩
    | sq hq rr => exact ⟨_, rfl, .inl ⟨⟨_, hq.sq⟩, P φ1 H1 _ l1 r1 (Drv.g (drv_lst (fun H' p => (hq.per p).sq) rr))⟩⟩
    | loc hk =>
      obtain ⟨ob, h2, h3⟩ := r1.at hk
      dsimp only at P
      rw [h2] at P
      cases h3 with
      | lst hh rr => exact ⟨_, rfl, .inl ⟨⟨_, .of hh⟩, P φ1 H1 _ l1 r1 (drv_own hk)⟩⟩
      | _ => exact P.elim
    | _ => exact P.elim
theorem i_P {it : Iv} (hi : SI X cl W tg e it) : SI2 X cl W tg e (iP it) := PI.of hi fun σ H R p => by
  obtain ⟨φ, st, h0, S, R0, P⟩ := p
  refine ⟨φ, st, h0, S, R0, ?_⟩
  simp only [iP] at P
  cases e : it st h0 with
  | bad => simp only [e, Rs.bind] at P
  | ex _ _ => simp only [e, Rs.bind] at P; exact P
  | ok ds h1 =>
    simp only [e, Rs.bind] at P
    exact fun φ' H' J l r dv => P φ' H' J l r dv.g
end
/-! ### the context of a comprehension's block -/
section
variable {X : Cx} {k : Nat}
theorem Cs.blk {s : Shared} {H : Hp} {sc : Scope} {ce : Env} {fp : List Addr} (c : Cs k X) : Cs k (X.blk s H sc ce fp) := ⟨c.room, c.gd, c.calm, c.nd⟩
theorem takes0 {Y : Cx} : Takes Y W0 := fun u s' ⟨_, _, _, _, _, _, _, _, _, _, _, _, _, _, _, _, w⟩ => w.elim
end

/-! ### a def of the program -/
def Def (P : Program) (w : World) (K : PySem.W.Frag) (mg : Str → Option Value) (base : Heap) (k : Nat) (x : Str) (ps : List Str) (sp : Sp) : Prop :=
  ∃ (f : Addr) (fd : FuncData), mg x = some (.ref f) ∧ PySem.W.keepIn K (.ref f) = true ∧ Binds K fd ps [] ∧ FnG P w K mg base k f fd ps sp
section
variable {X : Cx} {cl : Nat → Addr} {W : WX} {e : Expr} {es : List Expr} {fa : Av} {pos p : Pos} {k j n : Nat} {x : Str} {ps : List Str} {d : Fn} {dl : FnL}
theorem q_call (F : Def X.prog X.w X.K X.mg X.base j x ps (spP X.K cl n d)) (hj : j ≤ k) (c : Cs k X) (tk : Takes X W) (ha : SA X cl W (e :: es) fa) (hal : ∀ σ h xs h', fa σ h = .ok xs h' → xs.length = (e :: es).length) (hn : (e :: es).length = n := by rfl) (hg : Gl X x := by rfl) (hdb : (x == ("__debug__" : Str)) = false := by decide)
    (he : starEach (e :: es) X.env = (false, eval e X.env) :: starEach es X.env := by rfl) (hpl : (backTo pos (starEach es X.env)).any (·.1) = false := by rfl) : SE X cl W (.Call (.Name x p) (e :: es) [] pos) (eCall d fa) := by
  obtain ⟨f, fd, hm, hk, hb, G⟩ := F
  exact s_call (G.mono hj) c tk hg hm hk hb hn hal ha hdb he hpl
theorem q_callL (F : Def X.prog X.w X.K X.mg X.base j x ps (spL X.K cl n dl)) (hj : j ≤ k) (c : Cs k X) (tk : Takes X W) (ha : SA X cl W (e :: es) fa) (hal : ∀ σ h xs h', fa σ h = .ok xs h' → xs.length = (e :: es).length) (hn : (e :: es).length = n := by rfl) (hg : Gl X x := by rfl) (hdb : (x == ("__debug__" : Str)) = false := by decide)
    (he : starEach (e :: es) X.env = (false, eval e X.env) :: starEach es X.env := by rfl) (hpl : (backTo pos (starEach es X.env)).any (·.1) = false := by rfl) : SL X cl W (.Call (.Name x p) (e :: es) [] pos) (lCall dl fa) := by
  obtain ⟨f, fd, hm, hk, hb, G⟩ := F
  exact l_call (G.mono hj) c tk hg hm hk hb hn hal ha hdb he hpl
theorem q_call0 (F : Def X.prog X.w X.K X.mg X.base j x ps (spP X.K cl 0 d)) (hj : j ≤ k) (c : Cs k X) (tk : Takes X W) (hg : Gl X x := by rfl) (hdb : (x == ("__debug__" : Str)) = false := by decide) : SE X cl W (.Call (.Name x p) [] [] pos) (eCall d aN) := by
  obtain ⟨f, fd, hm, hk, hb, G⟩ := F
  exact s_call0 (G.mono hj) c tk hg hm hk hb hdb
end
end Y
end

section
set_option Elab.async false
set_option linter.all false
set_option maxRecDepth 100000
set_option maxHeartbeats 2000000
/-! YM: the pen: what is drawn. -/
namespace Y
open PySem L2

def bPen (i0 q m : Int) : Sv := sSeq (sAsg (gN 1) (eC (.int i0)))
    (sSeq (sFor (iA (eV 0)) (gN 2) (sAsg (gN 1) (Y.e2 oMod (eB bInt (aC (Y.e2 oAdd (Y.e2 oMul (eV 1) (eC (.int q))) (eV 2)) (aN))) (eC (.int m)))))
    (sRet (eDct (pC (eC (.str "cells")) (eFrz (lB mList (aC (eV 0) (aN)))) (pC (eC (.str "at")) (eC (.int 0)) (pC (eC (.str "digits")) (eC (.int 0)) (pC (eC (.str "count")) (eC (.int 0)) (pC (eC (.str "fold")) (eV 1) (pN)))))))))
/-- the draw's last part -/
def bLast (cq ca ex dv : Int) : Sv := (sSeq (sIf (Y.tB (Y.e2 oGt (Y.e2 oIx (eV 0) (eC (.str "digits"))) (eC (.int 0)))) (sSeq (sAsg (gN 3) (Y.e2 oMod (eB bInt (aC (Y.e2 oIx (eV 0) (eC (.str "digits"))) (aN))) (eV 1)))
    (sSeq (sStore (eV 0) (eC (.str "digits")) (Y.e2 oDiv (Y.e2 oIx (eV 0) (eC (.str "digits"))) (eV 1)))
    (sRet (eV 3)))) (sPass))
    (sSeq (sAsg (gN 4) (Y.e2 oAdd (Y.e2 oAdd (Y.e2 oIx (eV 0) (eC (.str "fold"))) (Y.e2 oMul (Y.e2 oIx (eV 0) (eC (.str "count"))) (eC (.int cq)))) (eC (.int ca))))
    (sRet (Y.e2 oMod (Y.e2 oDiv (eB bInt (aC (Y.e2 oMod (Y.e2 oPow (eV 4) (eC (.int ex))) (eC (.int 2305843009213693951))) (aN))) (eC (.int dv))) (eV 1)))))
def bDraw (fq fm cq ca ex dv : Int) : Sv := sSeq (sStore (eV 0) (eC (.str "count")) (Y.e2 oAdd (Y.e2 oIx (eV 0) (eC (.str "count"))) (eC (.int 1))))
    (sSeq (sIf (Y.tAnd (Y.tB (Y.e2 oEq (Y.e2 oIx (eV 0) (eC (.str "digits"))) (eC (.int 0)))) (Y.tB (Y.e2 oLt (Y.e2 oIx (eV 0) (eC (.str "at"))) (eB bLen (aC (Y.e2 oIx (eV 0) (eC (.str "cells"))) (aN)))))) (sSeq (sAsg (gN 2) (Y.e2 oIx (Y.e2 oIx (eV 0) (eC (.str "cells"))) (Y.e2 oIx (eV 0) (eC (.str "at")))))
    (sSeq (sStore (eV 0) (eC (.str "at")) (Y.e2 oAdd (Y.e2 oIx (eV 0) (eC (.str "at"))) (eC (.int 1))))
    (sIf (Y.tB (Y.e2 oGe (eV 2) (Y.e2 oPow (eC (.int 10)) (eC (.int 18))))) (sStore (eV 0) (eC (.str "digits")) (Y.e2 oSub (eV 2) (Y.e2 oPow (eC (.int 10)) (eC (.int 18))))) (sStore (eV 0) (eC (.str "fold")) (Y.e2 oMod (eB bInt (aC (Y.e2 oAdd (Y.e2 oMul (Y.e2 oIx (eV 0) (eC (.str "fold"))) (eC (.int fq))) (eV 2)) (aN))) (eC (.int fm))))))) (sPass))
    (bLast cq ca ex dv))
def dPen (i0 q m : Int) : Fn := fnK 3 (bPen i0 q m)
def dDraw (fq fm cq ca ex dv : Int) : Fn := fnP 5 (bDraw fq fm cq ca ex dv)
/-- the pen as it lies in the heap -/
def kvP (cs : List Int) (p g c f : Int) : List (Key × D) := [(.inr "cells", .fl (cs.map .int)), (.inr "at", .int p), (.inr "digits", .int g), (.inr "count", .int c), (.inr "fold", .int f)]
def penO (cs : List Int) (p g c f : Int) : Ob := .dct (kvP cs p g c f)
section
variable {cs : List Int} {p g c f : Int}
theorem get_cells : getK (kvP cs p g c f) (.inr "cells") = some (.fl (cs.map .int)) := rfl
theorem get_at : getK (kvP cs p g c f) (.inr "at") = some (.int p) := rfl
theorem get_dig : getK (kvP cs p g c f) (.inr "digits") = some (.int g) := rfl
theorem get_cnt : getK (kvP cs p g c f) (.inr "count") = some (.int c) := rfl
theorem get_fold : getK (kvP cs p g c f) (.inr "fold") = some (.int f) := rfl
theorem set_at {x : Int} : setK (kvP cs p g c f) (.inr "at") (.int x) = kvP cs x g c f := rfl
theorem set_dig {x : Int} : setK (kvP cs p g c f) (.inr "digits") (.int x) = kvP cs p x c f := rfl
theorem set_cnt {x : Int} : setK (kvP cs p g c f) (.inr "count") (.int x) = kvP cs p g x f := rfl
theorem set_fold {x : Int} : setK (kvP cs p g c f) (.inr "fold") (.int x) = kvP cs p g c x := rfl
theorem kv_len : (kvP cs p g c f).length = 5 := rfl
end
/-- a pen that can be drawn from, n draws being allowed still -/
structure PenAt (h : Hm) (k : Nat) (n : Nat) : Prop where
  ex : ∃ (cs : List Int) (p g c f : Int), h[k]? = some (penO cs p g c f) ∧ cs.length ≤ 63 ∧ 0 ≤ p ∧ 0 ≤ g ∧ 0 ≤ c ∧ c + n < 1000000000 ∧ 0 ≤ f ∧ f < 2147483648
theorem big_ok {i : Int} (h1 : -1000000000000000 < i) (h2 : i < 1000000000000000) : -big < i ∧ i < big := by
  unfold big; omega
theorem mulOk_l {i j : Int} (h1 : -1000000000000 < i) (h2 : i < 1000000000000) : mulOk i j = true := by
  have e1 : decide (-big < i) = true := decide_eq_true (by unfold big; omega)
  have e2 : decide (i < big) = true := decide_eq_true (by unfold big; omega)
  unfold mulOk
  rw [e1, e2]
  rfl
theorem mulOk_r {i j : Int} (h1 : -1000000000000 < j) (h2 : j < 1000000000000) : mulOk i j = true := by
  have e1 : decide (-big < j) = true := decide_eq_true (by unfold big; omega)
  have e2 : decide (j < big) = true := decide_eq_true (by unfold big; omega)
  unfold mulOk
  rw [e1, e2]
  simp
section
variable {h : Hm} {k : Nat} {cs : List Int} {p g c f x : Int}
theorem pen_get (lk : k < h.length) {o : Ob} : (h.set k o)[k]? = some o := by rw [List.getElem?_set_self lk]
theorem pen_ix (lk : k < h.length) {y : Str} : oIx (h.set k (penO cs p g c f)) (.loc k) (.str y) = getK (kvP cs p g c f) (.inr y) := by
  simp [oIx, dctOf, pen_get lk, penO, oDget, keyOf]
theorem pen_setD (lk : k < h.length) {y : Str} {v : D} : setD (h.set k (penO cs p g c f)) (.loc k) (.str y) v = some (h.set k (.dct (setK (kvP cs p g c f) (.inr y) v))) := by
  simp [setD, pen_get lk, penO, keyOf, kv_len, line]
theorem r_cells (lk : k < h.length) : oIx (h.set k (penO cs p g c f)) (.loc k) (.str "cells") = some (.fl (cs.map .int)) := (pen_ix lk).trans get_cells
theorem r_at (lk : k < h.length) : oIx (h.set k (penO cs p g c f)) (.loc k) (.str "at") = some (.int p) := (pen_ix lk).trans get_at
theorem r_dig (lk : k < h.length) : oIx (h.set k (penO cs p g c f)) (.loc k) (.str "digits") = some (.int g) := (pen_ix lk).trans get_dig
theorem r_cnt (lk : k < h.length) : oIx (h.set k (penO cs p g c f)) (.loc k) (.str "count") = some (.int c) := (pen_ix lk).trans get_cnt
theorem r_fold (lk : k < h.length) : oIx (h.set k (penO cs p g c f)) (.loc k) (.str "fold") = some (.int f) := (pen_ix lk).trans get_fold
theorem w_at (lk : k < h.length) : setD (h.set k (penO cs p g c f)) (.loc k) (.str "at") (.int x) = some (h.set k (penO cs x g c f)) := by rw [pen_setD lk, set_at]; rfl
theorem w_dig (lk : k < h.length) : setD (h.set k (penO cs p g c f)) (.loc k) (.str "digits") (.int x) = some (h.set k (penO cs p x c f)) := by rw [pen_setD lk, set_dig]; rfl
theorem w_cnt (lk : k < h.length) : setD (h.set k (penO cs p g c f)) (.loc k) (.str "count") (.int x) = some (h.set k (penO cs p g x f)) := by rw [pen_setD lk, set_cnt]; rfl
theorem w_fold (lk : k < h.length) : setD (h.set k (penO cs p g c f)) (.loc k) (.str "fold") (.int x) = some (h.set k (penO cs p g c x)) := by rw [pen_setD lk, set_fold]; rfl
end
theorem last_ok (cq ca ex dv : Int) (C : 0 ≤ cq ∧ cq < 1000000 ∧ 0 ≤ ca ∧ ca < 1000000 ∧ 0 ≤ ex ∧ ex < 1000 ∧ 0 < dv ∧ dv < 1000000) {h : Hm} {k : Nat} (lk : k < h.length) {cs : List Int} {p g c f many : Int} (y2 : Option D) (g0 : 0 ≤ g) (c0 : 0 ≤ c) (c1 : c < 1000000000) (f0 : 0 ≤ f) (f1 : f < 2147483648)
    (m0 : 0 < many) (m1 : many < 1073741824) : ∃ r g' : Int, bLast cq ca ex dv [some (.loc k), some (.int many), y2, none, none] (h.set k (penO cs p g c f)) = .rt (.int r) (h.set k (penO cs p g' c f)) ∧ 0 ≤ r ∧ r < many ∧ 0 ≤ g' := by
  obtain ⟨q5, q6, q7, q8, q9, q10, q11, q12⟩ := C
  by_cases hg : 0 < g
  · refine ⟨g % many, g / many, ?_, Int.emod_nonneg _ (by omega), Int.emod_lt_of_pos _ m0, Int.ediv_nonneg g0 (by omega)⟩
    simp [bLast, sStore, bInt, r_dig lk, w_dig lk, hg, m0, m1, fnP, sSeq, sAsg, sRet, sIf, sPass, eV, Rs.out, Rs.bind, outO, gN, Y.e2, eC, aN, aC, oMod, oGt, oDiv, ofO, Y.tB, eB]
  · have hg' : g = 0 := by omega
    subst hg'
    have b0 : 0 ≤ c * cq := Int.mul_nonneg c0 q5
    have b1 : c * cq ≤ 1000000000 * 1000000 := by
      have := Int.mul_le_mul (a := c) (b := cq) (c := 1000000000) (d := 1000000) (by omega) (by omega) q5 (by omega)
      exact this
    have a1 : mulOk c cq = true := mulOk_l (by omega) (by omega)
    have a2 : 0 ≤ ex ∧ ex ≤ 1000000 ∧ -big < f + c * cq + ca ∧ f + c * cq + ca < big := ⟨q9, by omega, by unfold big; omega, by unfold big; omega⟩
    have a3 : 0 < dv ∧ dv < 1073741824 := ⟨q11, by omega⟩
    refine ⟨_, 0, ?_, Int.emod_nonneg ((f + c * cq + ca) ^ ex.toNat % 2305843009213693951 / dv) (Int.ne_of_gt m0), Int.emod_lt_of_pos _ m0, Int.le_refl _⟩
    simp [bLast, bInt, r_dig lk, r_fold lk, r_cnt lk, a1, a2, a3, m0, fnP, sSeq, sAsg, sRet, sIf, sPass, eV, Rs.out, Rs.bind, outO, gN, Y.e2, eC, aN, aC, oMod, oMul, oAdd, oPow, oGt, oDiv, ofO, Y.tB, eB]
theorem ix_ints {cs : List Int} {p x : Int} {h : Hm} (p0 : 0 ≤ p) (hx : cs[p.toNat]? = some x) : oIx h (.fl (cs.map .int)) (.int p) = some (.int x) := by
  have lp : p.toNat < cs.length := (List.getElem?_eq_some_iff.mp hx).1
  simp only [oIx, dctOf, ixD, seqOf, lstOf, Option.bind_some]
  unfold L2.atI L2.ixN
  rw [if_pos p0, if_pos (by rw [List.length_map]; omega), Option.bind_some, List.getElem?_map, hx]
  rfl
theorem draw (fq fm cq ca ex dv : Int) (C : 0 ≤ fq ∧ fq < 1000000000 ∧ 0 < fm ∧ fm ≤ 2147483648 ∧ 0 ≤ cq ∧ cq < 1000000 ∧ 0 ≤ ca ∧ ca < 1000000 ∧ 0 ≤ ex ∧ ex < 1000 ∧ 0 < dv ∧ dv < 1000000)
    {h : Hm} {k n : Nat} (hp : PenAt h k (n + 1)) {many : Int} (m0 : 0 < many) (m1 : many < 1073741824) :
    ∃ (r : Int) (o : Ob), dDraw fq fm cq ca ex dv [.loc k, .int many] h = .ok (.int r) (h.set k o) ∧ 0 ≤ r ∧ r < many ∧ PenAt (h.set k o) k n := by
  obtain ⟨cs, p, g, c, f, hk, hl, p0, g0, c0, c1, f0, f1⟩ := hp.ex
  have lk : k < h.length := (List.getElem?_eq_some_iff.mp hk).1
  obtain ⟨q1, q2, q3, q4, C2⟩ := C
  have eh : h = h.set k (penO cs p g c f) := by
    apply List.ext_getElem?
    intro j
    by_cases hj : j = k
    · subst hj; rw [pen_get lk, hk]
    · rw [List.getElem?_set_ne (Ne.symm hj)]
  have done : ∀ (y2 : Option D) (p' g' f' : Int), 0 ≤ p' → 0 ≤ g' → 0 ≤ f' → f' < 2147483648 → ∀ o : Out, o = bLast cq ca ex dv [some (.loc k), some (.int many), y2, none, none] (h.set k (penO cs p' g' (c + 1) f')) →
      ∃ (r : Int) (ob : Ob), (match o with | .rt d h' => finP h d h' | .nx _ h' => finP h .non h' | .ex e _ h' => .ex e h' | _ => .bad) = Rs.ok (.int r) (h.set k ob) ∧ 0 ≤ r ∧ r < many ∧ PenAt (h.set k ob) k n := by
    intro y2 p' g' f' z1 z2 z3 z4 o eo
    obtain ⟨r, g2, e, r0, r1, g3⟩ := last_ok cq ca ex dv C2 lk (cs := cs) (p := p') (g := g') (c := c + 1) (f := f') y2 z2 (by omega) (by omega) z3 z4 m0 m1
    rw [e] at eo
    subst eo
    refine ⟨r, penO cs p' g2 (c + 1) f', ?_, r0, r1, ⟨cs, p', g2, c + 1, f', pen_get lk, hl, z1, g3, by omega, by omega, z3, z4⟩⟩
    simp [finP]
  show ∃ (r : Int) (ob : Ob), (match bDraw fq fm cq ca ex dv [some (.loc k), some (.int many), none, none, none] h with | .rt d h' => finP h d h' | .nx _ h' => finP h .non h' | .ex e _ h' => .ex e h' | _ => .bad) = Rs.ok (.int r) (h.set k ob) ∧ 0 ≤ r ∧ r < many ∧ PenAt (h.set k ob) k n
  by_cases hb : g = 0 ∧ p < cs.length
  · obtain ⟨hg, hp1⟩ := hb
    subst hg
    obtain ⟨x, hx⟩ : ∃ x, cs[p.toNat]? = some x := ⟨cs[p.toNat]'(by omega), List.getElem?_eq_getElem (by omega)⟩
    have ix : ∀ h, oIx h (.fl (cs.map .int)) (.int p) = some (.int x) := fun h => ix_ints p0 hx
    have e10 : (10 : Int) ^ (18 : Int).toNat = 1000000000000000000 := by decide
    have a1 : mulOk f fq = true := mulOk_l (by omega) (by omega)
    by_cases hx1 : 1000000000000000000 ≤ x
    · refine done (some (.int x)) (p + 1) (x - 1000000000000000000) f (by omega) (by omega) f0 f1 _ ?_
      rw [eh]
      simp [bDraw, sStore, r_dig lk, w_dig lk, r_cnt lk, w_cnt lk, r_at lk, w_at lk, r_cells lk, hp1, ix, hx1, big, fnP, sSeq, sAsg, sRet, sIf, sPass, eV, Rs.out, Rs.bind, outO, gN, Y.e2, eC, aN, aC, oEq, eqD, oAdd, oSub, oLt, oGe, oPow, bLen, seqOf, lstOf, Y.tAnd, ofO, Y.tB, eB]
    · refine done (some (.int x)) (p + 1) 0 ((f * fq + x) % fm) (by omega) (by omega) (Int.emod_nonneg _ (by omega)) (Int.lt_of_lt_of_le (Int.emod_lt_of_pos _ q3) q4) _ ?_
      rw [eh]
      simp [bDraw, sStore, bInt, r_dig lk, w_fold lk, r_fold lk, r_cnt lk, w_cnt lk, r_at lk, w_at lk, r_cells lk, hp1, ix, hx1, a1, q3, big, fnP, sSeq, sAsg, sRet, sIf, sPass, eV, Rs.out, Rs.bind, outO, gN, Y.e2, eC, aN, aC, oEq, eqD, oAdd, oMul, oMod, oSub, oLt, oGe, oPow, bLen, seqOf, lstOf, Y.tAnd, ofO, Y.tB, eB]
  · refine done none p g f p0 g0 f0 f1 _ ?_
    rw [eh]
    by_cases hg : g = 0
    · have hp1 : ¬ p < cs.length := fun z => hb ⟨hg, z⟩
      simp [bDraw, sStore, r_dig lk, r_cnt lk, w_cnt lk, r_at lk, r_cells lk, hp1, hg, fnP, sSeq, sAsg, sRet, sIf, sPass, eV, Rs.out, Rs.bind, outO, gN, Y.e2, eC, aN, aC, oEq, eqD, oAdd, oSub, oLt, bLen, seqOf, lstOf, Y.tAnd, ofO, Y.tB, eB]
    · simp [bDraw, sStore, r_dig lk, r_cnt lk, w_cnt lk, hg, fnP, sSeq, sAsg, sRet, sIf, sPass, eV, Rs.out, Rs.bind, outO, gN, Y.e2, eC, aN, aC, oEq, eqD, oAdd, Y.tAnd, ofO, Y.tB, eB]
/-! ### the pen made -/
theorem pen_loop (q m : Int) (C : 0 ≤ q ∧ q < 1000000000 ∧ 0 < m ∧ m ≤ 2147483648) (s0 : Option D) (h : Hm) : ∀ (ns : List Int) (f : Int) (y : Option D), 0 ≤ f → f < 2147483648 →
    ∃ (f' : Int) (y' : Option D), forL (gN 2) (sAsg (gN 1) (Y.e2 oMod (eB bInt (aC (Y.e2 oAdd (Y.e2 oMul (eV 1) (eC (.int q))) (eV 2)) (aN))) (eC (.int m)))) (ns.map .int) [s0, some (.int f), y] h = .nx [s0, some (.int f'), y'] h ∧ 0 ≤ f' ∧ f' < 2147483648
  | [], f, y, f0, f1 => ⟨f, y, rfl, f0, f1⟩
  | n :: ns, f, y, f0, f1 => by
    obtain ⟨q1, q2, q3, q4⟩ := C
    have a1 : mulOk f q = true := mulOk_l (by omega) (by omega)
    obtain ⟨f', y', e, z0, z1⟩ := pen_loop q m ⟨q1, q2, q3, q4⟩ s0 h ns ((f * q + n) % m) (some (.int n)) (Int.emod_nonneg _ (by omega)) (Int.lt_of_lt_of_le (Int.emod_lt_of_pos _ q3) q4)
    refine ⟨f', y', ?_, z0, z1⟩
    rw [← e]
    simp [forL, bInt, a1, q3, sAsg, eV, Rs.out, Rs.bind, outO, gN, Y.e2, eC, aN, aC, oAdd, oMul, oMod, ofO, eB]
theorem pen_made (i0 q m : Int) (C : 0 ≤ i0 ∧ i0 < 2147483648 ∧ 0 ≤ q ∧ q < 1000000000 ∧ 0 < m ∧ m ≤ 2147483648) (ns : List Int) (hl : ns.length ≤ 63) (h : Hm) :
    ∃ o : Ob, dPen i0 q m [.sq (ns.map .int)] h = .ok (.loc h.length) (h ++ [o]) ∧ PenAt (h ++ [o]) h.length 999999999 := by
  obtain ⟨c1, c2, C⟩ := C
  obtain ⟨f, y, e, f0, f1⟩ := pen_loop q m C (some (.sq (ns.map .int))) h ns i0 none c1 c2
  refine ⟨penO ns 0 0 0 f, ?_, ⟨ns, 0, 0, 0, f, by simp, hl, by omega, by omega, by omega, by omega, f0, f1⟩⟩
  simp [dPen, bPen, fnK, startD, sSeq, sFor, iA, sAsg, eV, Rs.out, Rs.bind, outO, gN, eC, e, sRet, eDct, pC, pN, eFrz, lB, mList, seqOf, lstOf, aC, aN, ofO, kvsOf, keyOf]
  rfl
/-- what is wanted of a draw function -/
def Draws (F : Fn) : Prop := ∀ {h : Hm} {k n : Nat}, PenAt h k (n + 1) → ∀ {many : Int}, 0 < many → many < 1073741824 → ∃ (r : Int) (o : Ob), F [.loc k, .int many] h = .ok (.int r) (h.set k o) ∧ 0 ≤ r ∧ r < many ∧ PenAt (h.set k o) k n
def bPick (F : Fn) : Sv := sRet (Y.e2 oIx (eV 1) (eCall F (aC (eV 0) (aC (eB bLen (aC (eV 1) (aN))) (aN)))))
def dPick (F : Fn) : Fn := fnP 2 (bPick F)
theorem pick_at {xs : List D} {r : Int} (r0 : 0 ≤ r) (r1 : r < xs.length) : ∃ x, L2.atI xs r = some x ∧ xs[r.toNat]? = some x ∧ x ∈ xs := by
  have hl : r.toNat < xs.length := by omega
  refine ⟨xs[r.toNat], ?_, List.getElem?_eq_getElem hl, List.getElem_mem hl⟩
  unfold L2.atI L2.ixN
  rw [if_pos r0, if_pos r1, Option.bind_some]
  exact List.getElem?_eq_getElem hl
theorem pick {F : Fn} (hF : Draws F) {h : Hm} {k n : Nat} (hp : PenAt h k (n + 1)) {d : D} {xs : List D} (hd : d = .fl xs ∨ d = .tup xs) (h0 : 0 < xs.length) (h1 : xs.length < 1073741824) :
    ∃ (x : D) (o : Ob), dPick F [.loc k, d] h = .ok x (h.set k o) ∧ x ∈ xs ∧ PenAt (h.set k o) k n := by
  obtain ⟨r, o, e, r0, r1, hq⟩ := hF hp (many := xs.length) (by omega) (by omega)
  obtain ⟨x, e2, _, hx⟩ := pick_at r0 r1
  refine ⟨x, o, ?_, hx, hq⟩
  rcases hd with rfl | rfl <;> simp [dPick, bPick, fnP, startD, sRet, Y.e2, eV, eCall, aC, aN, eB, bLen, seqOf, lstOf, e, e2, oIx, dctOf, ixD, Rs.bind, ofO, Rs.out, finP]
theorem ll (n : Nat) (h : n ≤ 100000) : (n ≤ line) = True := by
  have : n ≤ line := Nat.le_trans h (by decide)
  simp [this]
/-- a loop that keeps I -/
theorem forL_nx {g : Gv} {b : Sv} (I : Nat → Sl → Hm → Prop) : ∀ (ds : List D) (i : Nat) (σ : Sl) (h : Hm), I (i + ds.length) σ h →
    (∀ (d : D) (j : Nat) (σ : Sl) (h : Hm), d ∈ ds → I (j + 1) σ h → ∃ σ1, g d σ = some σ1 ∧ ∃ σ2 h2, (b σ1 h = .nx σ2 h2 ∨ b σ1 h = .ct σ2 h2) ∧ I j σ2 h2) → ∃ σ' h', forL g b ds σ h = .nx σ' h' ∧ I i σ' h'
  | [], i, σ, h, hi, _ => ⟨σ, h, rfl, hi⟩
  | d :: ds, i, σ, h, hi, hs => by
    obtain ⟨σ1, e1, σ2, h2, e2, i2⟩ := hs d (i + ds.length) σ h List.mem_cons_self hi
    obtain ⟨σ', h', e3, i3⟩ := forL_nx I ds i σ2 h2 i2 fun d j σ h m => hs d j σ h (List.mem_cons_of_mem _ m)
    refine ⟨σ', h', ?_, i3⟩
    rcases e2 with e2 | e2 <;> simp [forL, e1, e2, e3]
/-- one pen, alone in the heap -/
theorem draws1 {F : Fn} (hF : Draws F) {o : Ob} {n : Nat} (hp : PenAt [o] 0 (n + 1)) {many : Int} (m0 : 0 < many) (m1 : many < 1073741824) : ∃ (r : Int) (o' : Ob), F [.loc 0, .int many] [o] = .ok (.int r) [o'] ∧ 0 ≤ r ∧ r < many ∧ PenAt [o'] 0 n := hF hp m0 m1
theorem pick1 {F : Fn} (hF : Draws F) {o : Ob} {n : Nat} (hp : PenAt [o] 0 (n + 1)) {d : D} {xs : List D} (hd : d = .fl xs ∨ d = .tup xs) (h0 : 0 < xs.length) (h1 : xs.length < 1073741824) : ∃ (x : D) (o' : Ob), dPick F [.loc 0, d] [o] = .ok x [o'] ∧ x ∈ xs ∧ PenAt [o'] 0 n := pick hF hp hd h0 h1
theorem PenAt.mono {h : Hm} {k m n : Nat} (p : PenAt h k m) (l : n ≤ m) : PenAt h k n := by
  obtain ⟨cs, q, g, c, f, hk, hl, p0, g0, c0, c1, f0, f1⟩ := p.ex
  exact ⟨cs, q, g, c, f, hk, hl, p0, g0, c0, by omega, f0, f1⟩
theorem while_fuel (c : Tv) (b : Sv) : ∃ N : Nat, 1000000 < N ∧ sWhile c b = whileL c b N := ⟨1000000000000, by decide, rfl⟩
end Y
end

section
set_option Elab.async false
set_option linter.all false
set_option maxRecDepth 100000
set_option maxHeartbeats 2000000
/-! YN: sorted; lists times a number. -/
namespace Y
open PySem PySem.Spec PyProof.Rows L2

section
variable {X : Cx} {k : Nat} {β : Type}
/-- sorted(xs), by what the items stand for -/
theorem sort_gen (c0 : Cs k X) {enc : β → PyData} {toD : β → D} (hpy : ∀ h b, py h (toD b) = some (enc b)) {bs : List β} (hal : PySem.W.AllAlike (bs.map enc)) (hk : PySem.W.Sortable (bs.map enc)) (hd : ∀ b ∈ bs, (enc b).depth ≤ 64)
    {φ : List Addr} {H : Hp} {a : Addr} {vs : List V} (hq : SqL X.K H a vs) (rr : RepL X.K φ H (bs.map toD) vs) :
    CallR X (.builtin "sorted") (fun us H' Q => us = [.ref a] ∧ H' = H ∧ ∀ p vs', H p = none → RepL X.K φ H ((bs.mergeSort (PySem.W.dataLe false enc)).map toD) vs' → Q (.ref p) (upd H p (.lst vs'))) := by
  intro pins s σ H1 xs us Q I r1 hh
  obtain ⟨rfl, rfl, q⟩ := hh
  rw [Vals.ref1 r1]
  obtain ⟨its, rv, hl, hz⟩ := I.list hq
  have each : ∀ {vs : List V} {its : List Value} {bs : List β}, Vals vs its → RepL X.K φ H1 (bs.map toD) vs → PySem.W.EachIs (fun u b => ∃ v, RelV v u ∧ Rep X.K φ H1 (toD b) v) its bs := by
    intro vs its bs r
    induction r generalizing bs with
    | nil =>
      intro q
      cases bs with
      | nil => exact .nil
      | cons b bs => cases q
    | cons h1 _ ih =>
      intro q
      cases bs with
      | nil => cases q
      | cons b bs =>
        cases q with
        | cons q1 q2 => exact .cons ⟨_, h1, q1⟩ (ih q2)
  have e := each rv rr
  have er : PySem.W.EachIs (fun u b => ∃ as, Reads s.heap u (enc b) as) its bs := e.mono fun u b ⟨v, r, q⟩ => Dp.reads I _ _ _ (Rep.dp (toD b) v (enc b) (hpy [] b) q) r
  have hlen : bs.length ≤ sizeLine := by
    have := rr.length
    rw [List.length_map] at this
    omega
  have hu := c0.room.un
  refine PySem.W.sorted_data hl.isList e er hal hk hlen (fun b hb => by have := hd b hb; omega) fun out ho eo => ?_
  obtain ⟨ep, he'⟩ := PyProof.Rows.sortedAll_at s.heap its out.toArray
  have back : ∀ {out : List Value} {bs : List β}, PySem.W.EachIs (fun u b => ∃ v, RelV v u ∧ Rep X.K φ H1 (toD b) v) out bs → ∃ vs', Vals vs' out ∧ RepL X.K φ H1 (bs.map toD) vs' := by
    intro out bs r
    induction r with
    | nil => exact ⟨[], .nil, .nil⟩
    | cons h1 _ ih =>
      obtain ⟨v, r1, r2⟩ := h1
      obtain ⟨vs', r3, r4⟩ := ih
      exact ⟨v :: vs', .cons r1 r3, .cons r2 r4⟩
  obtain ⟨vs', v1, v2⟩ := back eo
  have hl2 : vs'.length ≤ sizeLine := by rw [v1.length, ho]; exact hlen
  exact ⟨.ref _, upd H1 (s.heap.objs.size + 1) (.lst vs'), I.laid (t' := s.toks) (fun _ _ => PyProof.Rows.sortedAll_old) (Nat.le_succ _) ⟨hl2, out, ep, v1, by simpa using he'⟩, rfl, q _ _ (I.hok.fresh (Nat.le_succ _)) v2⟩
end

/-! ### by kinds -/
def insB {α : Type} (le : α → α → Bool) (x : α) : List α → List α
  | [] => [x]
  | y :: ys => if le x y then x :: y :: ys else y :: insB le x ys
/-- sorting that the kernel can walk through -/
def isort {α : Type} (le : α → α → Bool) : List α → List α
  | [] => []
  | x :: xs => insB le x (isort le xs)
theorem insB_perm {α : Type} (le : α → α → Bool) (x : α) : ∀ l, (insB le x l).Perm (x :: l)
  | [] => .refl _
  | y :: ys => by
    unfold insB
    split
    · exact .refl _
    · exact ((insB_perm le x ys).cons y).trans (.swap x y ys)
theorem isort_perm {α : Type} (le : α → α → Bool) : ∀ l, (isort le l).Perm l
  | [] => .refl _
  | x :: xs => (insB_perm le x _).trans ((isort_perm le xs).cons x)
section
variable {α : Type} {le : α → α → Bool} (tr : ∀ a b c, le a b = true → le b c = true → le a c = true) (tt : ∀ a b, (le a b || le b a) = true)
include tr tt
theorem insB_sorted (x : α) : ∀ l, l.Pairwise (fun a b => le a b = true) → (insB le x l).Pairwise (fun a b => le a b = true)
  | [], _ => by simp [insB]
  | y :: ys, h => by
    have h' := List.pairwise_cons.mp h
    unfold insB
    split
    · rename_i c
      refine List.pairwise_cons.mpr ⟨fun z m => ?_, h⟩
      rcases List.mem_cons.mp m with rfl | m
      · exact c
      · exact tr _ _ _ c (h'.1 z m)
    · rename_i c
      refine List.pairwise_cons.mpr ⟨fun z m => ?_, insB_sorted x ys h'.2⟩
      rcases List.mem_cons.mp ((insB_perm le x ys).mem_iff.mp m) with rfl | m
      · have := tt z y
        simp [c] at this
        exact this
      · exact h'.1 z m
theorem isort_sorted : ∀ l, (isort le l).Pairwise (fun a b => le a b = true)
  | [] => List.Pairwise.nil
  | x :: xs => insB_sorted tr tt x _ (isort_sorted xs)
theorem isort_eq (an : ∀ a b, le a b = true → le b a = true → a = b) (l : List α) : l.mergeSort le = isort le l :=
  ((List.mergeSort_perm l le).trans (isort_perm le l).symm).eq_of_pairwise (fun a b _ _ x y => an a b x y) (List.pairwise_mergeSort tr tt l) (isort_sorted tr tt l)
end
def intsL (ns : List Int) : List Int := isort (fun a b => decide (a ≤ b)) ns
def rowsL (ns : List (List Int)) : List (List Int) := isort (fun a b => decide (a ≤ b)) ns
theorem intsL_eq (ns : List Int) : ns.mergeSort (fun a b => decide (a ≤ b)) = intsL ns := isort_eq (fun a b c h1 h2 => by simp at *; omega) (fun a b => by simp; omega) (fun a b h1 h2 => by simp at *; omega) ns
theorem rowsL_eq (ns : List (List Int)) : ns.mergeSort (fun a b => decide (a ≤ b)) = rowsL ns := isort_eq (fun a b c h1 h2 => by simp at *; exact List.le_trans h1 h2) (fun a b => by simp; exact List.le_total a b) (fun a b h1 h2 => by simp at *; exact List.le_antisymm h1 h2) ns
def rowD (r : List Int) : D := .tup (r.map .int)
def rowsOf : List D → Option (List (List Int))
  | [] => some []
  | .tup xs :: r => match intsOf xs, rowsOf r with
    | some a, some b => if a.isEmpty then none else some (a :: b)
    | _, _ => none
  | _ => none
def sortD (ds : List D) : Option (List D) := match intsOf ds with
  | some ns => some ((intsL ns).map .int)
  | none => match rowsOf ds with
    | some rs => some ((rowsL rs).map rowD)
    | none => none
/-- sorted(xs), xs a list of ints, of rows of ints -/
def mSorted (h : Hm) : List D → Option (List D)
  | [d] => (lstOf h d).bind sortD
  | _ => none
theorem intsOf_map : ∀ {ds : List D} {ns : List Int}, intsOf ds = some ns → ds = ns.map .int
  | [], ns, e => by simp [intsOf] at e; subst e; rfl
  | d :: ds, ns, e => by
    cases d <;> simp [intsOf] at e
    obtain ⟨a, h1, rfl⟩ := e
    simp [intsOf_map h1]
theorem rowsOf_map : ∀ {ds : List D} {rs : List (List Int)}, rowsOf ds = some rs → ds = rs.map rowD ∧ ∀ r ∈ rs, r ≠ []
  | [], ns, e => by simp [rowsOf] at e; subst e; exact ⟨rfl, fun r m => by simp at m⟩
  | d :: ds, ns, e => by
    cases d <;> simp only [rowsOf] at e <;> try (cases e; done)
    rename_i xs
    cases h1 : intsOf xs with
    | none => rw [h1] at e; cases e
    | some a =>
      cases h2 : rowsOf ds with
      | none => rw [h1, h2] at e; cases e
      | some b =>
        rw [h1, h2] at e
        simp only at e
        split at e
        · cases e
        · rename_i ha
          cases e
          obtain ⟨q1, q2⟩ := rowsOf_map h2
          refine ⟨by simp [rowD, ← q1, intsOf_map h1], fun r m => ?_⟩
          rcases List.mem_cons.mp m with rfl | m
          · simpa using ha
          · exact q2 r m
theorem py_ints (h : Hm) : ∀ ns : List Int, pyL h (ns.map .int) = some (ns.map .int)
  | [] => rfl
  | n :: ns => by simp [pyL, py, py_ints h ns]
theorem py_row (h : Hm) (r : List Int) : py h (rowD r) = some (.tuple (r.map .int)) := by simp [rowD, py, py_ints]
theorem dataLe_tups (x : List Int → List Int) : PySem.W.dataLe false (fun b => PyData.tuple ((x b).map .int)) = fun p q => decide (x p ≤ x q) := by
  funext p q
  show (!PySem.W.dataLt (.tuple ((x q).map .int)) (.tuple ((x p).map .int))) = _
  rw [PySem.W.dataLt_tuple]
  show (!PySem.W.rowLt ((x q).map .int) ((x p).map .int)) = _
  rw [PySem.W.dataLt_ints]
  by_cases h : x q < x p
  · have h' : ¬ x p ≤ x q := fun r => List.not_lt.mpr r h
    simp [h, h']
  · have h' : x p ≤ x q := List.not_lt.mp h
    simp [h, h']
section
variable {X : Cx} {k : Nat}
theorem c_sorted (c0 : Cs k X) : CaL X (.builtin "sorted") mSorted := caL fun Q φ H h xs vs z R r e q => by
  rcases xs with _ | ⟨d, _ | _⟩ <;> simp only [mSorted] at e <;> try (cases e; done)
  obtain ⟨v, rfl, rd⟩ := r.one
  obtain ⟨ys, e1, e2⟩ := Option.bind_eq_some_iff.mp e
  obtain ⟨a, us, rfl, hq, rr⟩ := lst_at R rd e1
  have fin : ∀ p vs', H p = none → RepL X.K φ H z vs' → Q (.ref p) (upd H p (.lst vs')) := fun p vs' hp hr => q φ _ _ (Lat.new hp) (R.new hp) (fresh_new R hp hr)
  unfold sortD at e2
  cases h1 : intsOf ys with
  | some ns =>
    rw [h1] at e2
    cases e2
    have em := intsOf_map h1
    subst em
    have g := sort_gen c0 (enc := PyData.int) (toD := D.int) (fun _ _ => rfl) (bs := ns) (PySem.W.AllAlike.of fun _ _ => rfl) (PySem.W.Sortable.others fun _ => ⟨by simp, by simp⟩) (fun _ _ => by simp [PyData.depth]) hq rr
    rw [PySem.W.dataLe_int (fun b : Int => b), intsL_eq] at g
    exact ⟨_, g, rfl, rfl, fin⟩
  | none =>
    rw [h1] at e2
    cases h2 : rowsOf ys with
    | none => rw [h2] at e2; cases e2
    | some rs =>
      rw [h2] at e2
      cases e2
      obtain ⟨em, hne⟩ := rowsOf_map h2
      subst em
      have g := sort_gen c0 (enc := fun r : List Int => PyData.tuple (r.map .int)) (toD := rowD) (fun h b => py_row h b) (bs := rs)
        (PySem.W.AllAlike.of fun b b' => by simp only [PySem.W.alike]; exact PySem.W.alike_ints b b')
        (.inl fun d hd => by
          obtain ⟨b, hb, rfl⟩ := List.mem_map.mp hd
          cases b with
          | nil => exact absurd rfl (hne _ hb)
          | cons x r => exact ⟨_, _, rfl⟩) (fun b _ => by simp [PyData.depth, PySem.W.depth_ints]) hq rr
      rw [dataLe_tups (fun b => b), rowsL_eq] at g
      exact ⟨_, g, rfl, rfl, fin⟩
end
/-! ### [..] * n -/
def lMul (f : Lv) (g : Ev) : Lv := fun σ h => (f σ h).bind fun xs h1 => (g σ h1).bind fun n h2 => match n with
  | .int k => if -4611686018427387904 ≤ k ∧ k < 4611686018427387904 ∧ xs.length * k.toNat ≤ line then .ok (List.replicate k.toNat xs).flatten h2 else .bad
  | _ => .bad
theorem RepL.rep {K : PySem.W.Frag} {φ : List Addr} {H : Hp} {ds : List D} {vs : List V} (r : RepL K φ H ds vs) : ∀ n : Nat, RepL K φ H (List.replicate n ds).flatten (List.replicate n vs).flatten
  | 0 => .nil
  | n + 1 => by
    simp only [List.replicate_succ, List.flatten_cons]
    exact r.append (RepL.rep r n)
section
variable {X : Cx} {cl : Nat → Addr} {W : WX} {a b : Expr} {f : Lv} {g : Ev} {pos : Pos}
theorem l_mul (ha : SL X cl W a f) (hb : SE X cl W b g) : SL X cl W (.BinOp a .Mult b pos) (lMul f g) := by
  refine ⟨fun pins s σ H Q I p => ?_⟩
  obtain ⟨φ, st, h0, S, R0, P⟩ := p
  refine wpAny_BinOp (bin ha hb I (R := fun v u H2 => rRep v u H2 Q) ?_ fun v u s2 x y H2 I2 rx ry q => op_rep pins s2 σ H2 x y v u Q I2 rx ry q)
  refine ⟨φ, st, h0, S, R0, P.seq fun x h1 φ1 H1 v l1 r1 q1 P1 => ⟨φ1, st, h1, S.mono l1, r1, P1.seq fun y h2 φ2 H2 u l2 r2 q2 P2 => ?_⟩⟩
  obtain ⟨p, vs, rfl, n0, nn, ea, rr⟩ := q1
  cases q2 <;> simp only at P2 <;> try (exact P2.elim)
  rename_i k
  split at P2
  · rename_i hc
    refine ⟨p, k, vs, rfl, rfl, l2.keep p _ ea nn, by omega, by omega, by rw [← rr.length, ← line_eq]; exact hc.2.2, fun p' hp => ?_⟩
    exact P2 φ2 _ _ (Lat.new hp) (r2.new hp) (fresh_new r2 hp (RepL.mono l2.pre l2.per _ _ (rr.rep _)))
  · exact P2.elim
end
end Y
end

section
set_option Elab.async false
set_option linter.all false
set_option maxRecDepth 100000
set_option maxHeartbeats 2000000
/-! YP: exceptions: raise, try. -/
namespace Y
open PySem PySem.Spec PyProof.Rows L2

/-- raise C(..), C of the program, its __init__ keeps the fields fs -/
def sRaise (c : Str) (fs : List Str) (a : Av) : Sv := fun σ h => (a σ h).out σ fun xs h1 => if xs.length = fs.length ∧ fs.length ≤ 10 then .ex ⟨c, (fs.zip xs).reverse⟩ σ h1 else .bad
/-- what __init__ does -/
def spI (C : Addr) (fs : List Str) : Sp := fun vs H Q _ => ∃ (a : Addr) (ws : List V), vs = .ref a :: ws ∧ ws.length = fs.length ∧ H a = some (exo a C none) ∧
  ∀ dx H2, H dx = none → dx ≠ a → H2 a = some (exo a C (some dx)) → H2 dx = some (exd dx (fs.zip ws).reverse) → (∀ b, b ≠ a → b ≠ dx → H2 b = H b) → Q .non H2
/-- the class and its __init__ -/
structure Exc (P : Program) (w : World) (K : PySem.W.Frag) (mg : Str → Option Value) (base : Heap) (c : Str) (fs : List Str) : Prop where
  ex : ∃ (C fI : Addr) (fd : FuncData), mg c = some (.ref C) ∧ PySem.W.nsIn K mainGlobals c = some (some (.ref C)) ∧ OexC K C ∧ PySem.W.findIn K (.ref C) "__init__" = some (some (.ref fI)) ∧ PySem.W.typeIn K (.ref fI) = some (.type "function") ∧
    FnOk P w K mg base CX0 1 fI fd ("self" :: fs) (spI C fs) ∧ Binds K fd ("self" :: fs) []
section
variable {X : Cx} {cl : Nat → Addr} {W : WX} {e : Expr} {es : List Expr} {fa : Av} {pos p pos2 : Pos} {k : Nat} {c : Str} {fs : List Str}
theorem repF_zip {K : PySem.W.Frag} {φ : List Addr} {H : Hp} : ∀ {fs : List Str} {xs : List D} {vs : List V}, RepL K φ H xs vs → RepF K φ H (fs.zip xs) (fs.zip vs)
  | [], _, _, _ => by simp only [List.zip_nil_left]; exact .nil
  | f :: fs, [], _, r => by cases r; simp only [List.zip_nil_right]; exact .nil
  | f :: fs, x :: xs, _, r => by
    cases r with
    | cons h r => exact .cons ⟨rfl, h⟩ (repF_zip r)
theorem paired_app {α β : Type} {R : α → β → Prop} {as as' : List α} {bs bs' : List β} (h : Paired R as bs) (h' : Paired R as' bs') : Paired R (as ++ as') (bs ++ bs') := by
  induction h with
  | nil => exact h'
  | cons q _ ih => exact .cons q ih
theorem paired_rev {α β : Type} {R : α → β → Prop} {as : List α} {bs : List β} (h : Paired R as bs) : Paired R as.reverse bs.reverse := by
  induction h with
  | nil => exact .nil
  | cons q _ ih => rw [List.reverse_cons, List.reverse_cons]; exact paired_app ih (.cons q .nil)
theorem s_raise (E : Exc X.prog X.w X.K X.mg X.base c fs) (c0 : Cs k X) (hk : 2 ≤ k) (tk : Takes X W) (ha : SA X cl W (e :: es) fa) (hg : Gl X c := by rfl) (hdb : (c == ("__debug__" : Str)) = false := by decide)
    (he : starEach (e :: es) X.env = (false, eval e X.env) :: starEach es X.env := by rfl) (hpl : (backTo pos (starEach es X.env)).any (·.1) = false := by rfl) : SS X cl W (.Raise (some (.Call (.Name c p) (e :: es) [] pos)) none pos2) (sRaise c fs fa) := by
  obtain ⟨C, fI, fd, gm, hns, T, iC, tI, F, hb⟩ := E.ex
  refine PS.of (ps_raise c0.calm tk (pmk_oex T iC tI F (c0.room.mono hk) hb .nil (pass0 : Passes CX0 X _) hg gm ha hdb he hpl)) fun D σ H p => ?_
  obtain ⟨φ, st, h0, S, R0, P⟩ := p
  refine ⟨φ, st, h0, S, R0, ?_⟩
  simp only [sRaise] at P
  cases e1 : fa st h0 with
  | bad => simp only [e1, Rs.out] at P; exact P
  | ex ex1 h1 =>
    simp only [e1, Rs.out] at P
    exact fun φ' H' c d l r er => P φ' H' c d σ l r (S.mono l) er
  | ok xs h1 =>
    simp only [e1, Rs.out] at P
    intro φ1 H1 vs l1 r1 q1
    split at P
    · rename_i hl
      obtain ⟨hl, h10⟩ := hl
      refine ⟨by rw [← q1.length, hl]; omega, fun a ha => ⟨a, vs, by rw [List.append_nil], by rw [← q1.length, hl], upd_same, fun dx H2 n1 n2 e2 e3 e4 => ?_⟩⟩
      refine ⟨rfl, dx, _, e2, e3, ?_, ?_⟩
      · rw [upd_ne n2] at n1; exact n1
      · rw [upd_ne n2] at n1
        have eH : upd (del H2 a) dx (.xd (fs.zip vs).reverse) = upd H1 dx (.xd (fs.zip vs).reverse) := by
          funext b
          by_cases hb : b = dx
          · subst hb; rw [upd_same, upd_same]
          · rw [upd_ne hb, upd_ne hb]
            by_cases hba : b = a
            · subst hba; rw [del_same, ha]
            · rw [del_ne hba, e4 b hba hb, upd_ne hba]
        rw [eH]
        exact P φ1 _ _ _ σ (l1.trans (Lat.new n1)) (r1.new n1) (S.mono (l1.trans (Lat.new n1))) ⟨⟨C, rfl, hns⟩, .inr ⟨dx, _, rfl, upd_same, paired_rev (repF_zip (RepL.mono (List.prefix_refl _) (Per.new n1) _ _ q1))⟩⟩
    · exact P.elim
end
end Y
end

section
set_option Elab.async false
set_option linter.all false
set_option maxRecDepth 100000
set_option maxHeartbeats 2000000
/-! YQ: in, not in; walks with enumerate, zip. -/
namespace Y
open PySem PySem.Spec PyProof.Rows L2

def inD (h : Hm) (x y : D) : Option Bool := match dctOf h y with
  | some kvs => match keyOf x with
    | some k => some (getK kvs k).isSome
    | none => none
  | none => match dtuOf h y with
   | some kvs => match tkOf x with
    | some k => some (getK kvs k).isSome
    | none => none
   | none => match seqOf h y with
    | some ds => match py h x, pyL h ds with
      | some d, some es => if SeqAt.shaped d && SeqAt.shaped (.list es) then some (es.any fun z => PyData.eqv z d) else none
      | _, _ => none
    | none => none
def oIn (h : Hm) (x y : D) : Option D := (inD h x y).map .bl
def oNotIn (h : Hm) (x y : D) : Option D := (inD h x y).map fun b => .bl (!b)
theorem keys_rep {K : PySem.W.Frag} {φ : List Addr} {H : Hp} : ∀ {xs : List D} {vs : List V} {ks : List Key}, RepL K φ H xs vs → keysOf xs = some ks → vs = ks.map kV
  | [], _, _, r, e => by
    cases r
    simp only [keysOf, Option.some.injEq] at e
    subst e
    rfl
  | x :: xs, _, ks, r, e => by
    cases r with
    | cons h r =>
      simp only [keysOf] at e
      cases e1 : keyOf x with
      | none => rw [e1] at e; cases e
      | some k =>
        cases e2 : keysOf xs with
        | none => rw [e1, e2] at e; cases e
        | some ks' =>
          rw [e1, e2] at e
          cases e
          rw [key_of_rep h e1, keys_rep r e2]
          rfl
theorem tk_of_rep {K : PySem.W.Frag} {φ : List Addr} {H : Hp} {y : D} {u : V} {ks : List Key} (r : Rep K φ H y u) (e : tkOf y = some ks) : ∃ b, u = .ref b ∧ H b = some (.tup (ks.map kV)) := by
  cases r <;> simp only [tkOf] at e <;> try (cases e; done)
  rename_i a ds vs hq rr
  refine ⟨a, rfl, ?_⟩
  rw [← keys_rep rr e]
  exact hq
section
variable {X : Cx} {k : Nat}
theorem in_gen (c : Cs k X) {F : Value → Value → Sem Value} (f : Bool → Bool)
    (hdct : ∀ {pins : List (Addr × Obj)} {s : Shared} {σ : L2.St} {H : Hp} {a : Addr} {y : V} {u : Value} {o : Option V} {Q : Value → Shared → Prop} {E : Value → Shared → Prop}, L2.Inv X pins σ H s → DGet H a y o → RelV y u → (∀ s', L2.Inv X pins σ H s' → Q (.bool (f o.isSome)) s') → wpAny (model X.prog X.w) X.A (F u (.ref a)) Q E s)
    (hseq : ∀ {pins : List (Addr × Obj)} {s : Shared} {σ : L2.St} {H : Hp} {a : Addr} {x : V} {u : Value} {vs : List V} {d : PyData} {es : List PyData} {Q : Value → Shared → Prop} {E : Value → Shared → Prop}, L2.Inv X pins σ H s → (SqL X.K H a vs ∨ SqT X.K H a vs) → DpAll X.K H vs es → Dp X.K H x d → RelV x u → SeqAt.shaped d = true → SeqAt.shaped (.list es) = true → Q (.bool (f (es.any fun z => PyData.eqv z d))) s → wpAny (model X.prog X.w) X.A (F u (.ref a)) Q E s) :
    OpY X F (fun h x y => (inD h x y).map fun b => .bl (f b)) := opY1 fun Q φ H h x y v u z R rx ry e q => by
  obtain ⟨b, e1, rfl⟩ := Option.map_eq_some_iff.mp e
  have q' : Q (.bl (f b)) H := q _ (.bl _)
  refine ⟨fun v' u' H' Q' => v' = v ∧ u' = u ∧ H' = H ∧ Q' (.bl (f b)) H, ?_, rfl, rfl, rfl, q'⟩
  intro pins s σ H1 xv yv vv uu Q1 I r1 r2 hh
  obtain ⟨rfl, rfl, rfl, qq⟩ := hh
  unfold inD at e1
  cases ed : dctOf h y with
  | some kvs =>
    rw [ed] at e1
    cases ek : keyOf x with
    | none => rw [ek] at e1; cases e1
    | some ky =>
      rw [ek] at e1
      cases e1
      have e3 := key_of_rep rx ek
      subst e3
      cases ry <;> simp only [dctOf] at ed <;> try (cases ed; done)
      rename_i n ad hk
      obtain ⟨ob, h3, h4⟩ := R.at hk
      rw [h3] at ed
      cases ob <;> simp at ed
      subst ed
      cases r2
      cases h4 with
      | dct hh rr =>
        rename_i kv
        rcases rr.get ky with ⟨z1, z2⟩ | ⟨dd, w, z1, z2, z3⟩
        · refine hdct I (.k hh (k := ky)) r1 fun s' I' => ⟨.bl _, _, I', rfl, ?_⟩
          rw [z1] at qq
          rw [z2]
          exact qq
        · refine hdct I (.k hh (k := ky)) r1 fun s' I' => ⟨.bl _, _, I', rfl, ?_⟩
          rw [z1] at qq
          rw [z2]
          exact qq
  | none =>
    rw [ed] at e1
    simp only at e1
    cases et : dtuOf h y with
    | some kvs =>
      rw [et] at e1
      cases ek : tkOf x with
      | none => rw [ek] at e1; cases e1
      | some ky =>
        rw [ek] at e1
        cases e1
        obtain ⟨b0, e3, hb0⟩ := tk_of_rep rx ek
        subst e3
        cases ry <;> simp only [dtuOf] at et <;> try (cases et; done)
        rename_i n ad hk
        obtain ⟨ob, h3, h4⟩ := R.at hk
        rw [h3] at et
        cases ob <;> simp at et
        subst et
        cases r2
        cases h4 with
        | dtu hh rr =>
          rcases rr.get ky with ⟨z1, z2⟩ | ⟨dd, w, z1, z2, z3⟩
          · refine hdct I (.t hh hb0 (k := ky)) r1 fun s' I' => ⟨.bl _, _, I', rfl, ?_⟩
            rw [z1] at qq
            rw [z2]
            exact qq
          · refine hdct I (.t hh hb0 (k := ky)) r1 fun s' I' => ⟨.bl _, _, I', rfl, ?_⟩
            rw [z1] at qq
            rw [z2]
            exact qq
    | none =>
    rw [et] at e1
    simp only at e1
    cases es : seqOf h y with
    | none => rw [es] at e1; cases e1
    | some ds =>
      rw [es] at e1
      simp only at e1
      cases ex : py h x with
      | none => rw [ex] at e1; cases e1
      | some d =>
        cases el : pyL h ds with
        | none => rw [ex, el] at e1; cases e1
        | some ps =>
          rw [ex, el] at e1
          simp only at e1
          split at e1
          · rename_i hc
            simp only [Bool.and_eq_true] at hc
            cases e1
            obtain ⟨a, vs, rfl, hq, rr⟩ := seq_at R ry es
            cases r2
            exact hseq I hq (RepL.dp ds _ _ el rr) (Rep.dp x _ d ex rx) r1 hc.1 hc.2 ⟨.bl _, _, I, rfl, qq⟩
          · cases e1
theorem y_in (c : Cs k X) : OpY X (compareOp .In) oIn := in_gen c (fun b => b) (fun I g r q => d_in c.hu I g r q) fun {pins s σ H a x u vs d es Q E} I hq hr hx ru sd se q => by
  have hu := c.room.un
  obtain ⟨bs, r1⟩ := Dp.reads I d x u hx ru
  rcases hq with hq | hq
  · obtain ⟨as, r2⟩ := Dp.reads I (.list es) (.ref a) (.ref a) (.lst hq hr) rfl
    exact SeqAt.in_list_reads r2 r1 (SeqAt.canLay_of_shaped se) (SeqAt.canLay_of_shaped sd) (room_in_shaped sd (by omega)) q
  · obtain ⟨as, r2⟩ := Dp.reads I (.tuple es) (.ref a) (.ref a) (.tup hq hr) rfl
    exact SeqAt.in_tuple_reads r2 r1 (SeqAt.canLay_of_shaped se) (SeqAt.canLay_of_shaped sd) (room_in_shaped sd (by omega)) q
theorem y_notIn (c : Cs k X) : OpY X (compareOp .NotIn) oNotIn := in_gen c (fun b => !b) (fun I g r q => d_notIn c.hu I g r q) fun {pins s σ H a x u vs d es Q E} I hq hr hx ru sd se q => by
  have hu := c.room.un
  obtain ⟨bs, r1⟩ := Dp.reads I d x u hx ru
  rcases hq with hq | hq
  · obtain ⟨as, r2⟩ := Dp.reads I (.list es) (.ref a) (.ref a) (.lst hq hr) rfl
    exact SeqAt.notIn_list_reads r2 r1 (SeqAt.canLay_of_shaped se) (SeqAt.canLay_of_shaped sd) (room_in_shaped sd (by omega)) q
  · obtain ⟨as, r2⟩ := Dp.reads I (.tuple es) (.ref a) (.ref a) (.tup hq hr) rfl
    exact SeqAt.notIn_tuple_reads r2 r1 (SeqAt.canLay_of_shaped se) (SeqAt.canLay_of_shaped sd) (room_in_shaped sd (by omega)) q
end
/-! ### zip, enumerate -/
def pairsD : List D → List D → List D
  | x :: xs, y :: ys => .tup [x, y] :: pairsD xs ys
  | _, _ => []
def enumD (i : Nat) : List D → List D
  | x :: xs => .tup [.int i, x] :: enumD (i + 1) xs
  | [] => []
def frzOf : D → Option (List D)
  | .fl xs => some xs
  | .sq xs => some xs
  | _ => none
/-- zip(x, y): two lists that are never changed, or two tuples -/
def zipD : List D → Option (List D)
  | [x, y] => match x with
    | .tup xs => match y with
      | .tup ys => some (pairsD xs ys)
      | _ => none
    | x => match frzOf x, frzOf y with
      | some xs, some ys => some (pairsD xs ys)
      | _, _ => none
  | _ => none
def iZipD (a : Av) : Iv := fun σ h => (a σ h).bind fun xs h1 => ofO (zipD xs) h1
def numD : List D → Option (List D)
  | [x] => (frzOf x).map (enumD 0)
  | _ => none
def iEnumD (a : Av) : Iv := fun σ h => (a σ h).bind fun xs h1 => ofO (numD xs) h1
theorem zip_cases {xs ds : List D} (e : zipD xs = some ds) : (∃ a b, xs = [.tup a, .tup b] ∧ ds = pairsD a b) ∨ ∃ x y a b, xs = [x, y] ∧ frzOf x = some a ∧ frzOf y = some b ∧ ds = pairsD a b := by
  rcases xs with _ | ⟨x, _ | ⟨y, _ | _⟩⟩
  · cases e
  · cases e
  · by_cases hx : ∃ a, x = .tup a
    · obtain ⟨a, rfl⟩ := hx
      simp only [zipD] at e
      cases y <;> simp only at e <;> try (cases e; done)
      cases e
      exact .inl ⟨_, _, rfl, rfl⟩
    · have e' : (match frzOf x, frzOf y with | some xs, some ys => some (pairsD xs ys) | _, _ => none) = some ds := by
        cases x <;> first | exact e | exact absurd ⟨_, rfl⟩ hx
      cases f1 : frzOf x with
      | none => rw [f1] at e'; cases e'
      | some a =>
        cases f2 : frzOf y with
        | none => rw [f1, f2] at e'; cases e'
        | some b => rw [f1, f2] at e'; cases e'; exact .inr ⟨x, y, a, b, rfl, f1, f2, rfl⟩
  · cases e
theorem pairs_get : ∀ {xs ys : List D} {i : Nat} {d : D}, (pairsD xs ys)[i]? = some d → ∃ x y, xs[i]? = some x ∧ ys[i]? = some y ∧ d = .tup [x, y]
  | [], ys, i, d, h => by cases ys <;> simp [pairsD] at h
  | x :: xs, [], i, d, h => by simp [pairsD] at h
  | x :: xs, y :: ys, 0, d, h => by simp [pairsD] at h; exact ⟨x, y, rfl, rfl, h.symm⟩
  | x :: xs, y :: ys, i + 1, d, h => by
    simp [pairsD] at h
    obtain ⟨a, b, h1, h2, h3⟩ := pairs_get h
    exact ⟨a, b, by simpa using h1, by simpa using h2, h3⟩
theorem pairs_len : ∀ (xs ys : List D), xs.length ≤ (pairsD xs ys).length ∨ ys.length ≤ (pairsD xs ys).length
  | [], ys => by simp
  | x :: xs, [] => by simp
  | x :: xs, y :: ys => by
    have := pairs_len xs ys
    simp [pairsD]
    exact this
theorem enum_get : ∀ {xs : List D} {j i : Nat} {d : D}, (enumD j xs)[i]? = some d → ∃ x, xs[i]? = some x ∧ d = .tup [.int ((j + i : Nat) : Int), x]
  | [], j, i, d, h => by simp [enumD] at h
  | x :: xs, j, 0, d, h => by simp [enumD] at h; exact ⟨x, rfl, by simpa using h.symm⟩
  | x :: xs, j, i + 1, d, h => by
    simp [enumD] at h
    obtain ⟨a, h1, h2⟩ := enum_get h
    exact ⟨a, by simpa using h1, by rw [h2]; congr 4; omega⟩
theorem enum_len : ∀ (xs : List D) (j : Nat), (enumD j xs).length = xs.length
  | [], _ => rfl
  | x :: xs, j => by simp [enumD, enum_len xs]
section
variable {X : Cx} {cl : Nat → Addr} {W : WX} {a b : Expr} {fa : Av} {pos : Pos}
theorem frz_at {φ : List Addr} {H : Hp} {x : D} {v : V} (rx : Rep X.K φ H x v) {xs : List D} (e : frzOf x = some xs) : ∃ a vs, v = .ref a ∧ (∀ H', Per H H' → SqL X.K H' a vs) ∧ RepL X.K φ H xs vs := by
  cases rx <;> simp only [frzOf] at e <;> try (cases e; done)
  · cases e; rename_i hq rr; exact ⟨_, _, rfl, fun H' p => .inl (.inr ⟨_, p.frz _ _ _ hq⟩), rr⟩
  · cases e; rename_i hq rr; exact ⟨_, _, rfl, fun H' p => (hq.per p).sq, rr⟩
theorem pair_rep {K : PySem.W.Frag} {φ : List Addr} {H : Hp} {h : Hm} (R : HR K φ H h) {T : Addr} {d1 d2 : D} {x y : V} (hT : H T = none) (r1 : Rep K φ H d1 x) (r2 : Rep K φ H d2 y) :
    Lat φ H φ (upd H T (.tup [x, y])) ∧ HR K φ (upd H T (.tup [x, y])) h ∧ Rep K φ (upd H T (.tup [x, y])) (.tup [d1, d2]) (.ref T) :=
  ⟨Lat.new hT, R.new hT, .tup upd_same (.cons (Rep.mono (List.prefix_refl _) (Per.new hT) _ _ r1) (.cons (Rep.mono (List.prefix_refl _) (Per.new hT) _ _ r2) .nil))⟩
theorem drv_zipL {K : PySem.W.Frag} {φ : List Addr} {H : Hp} {p q : Addr} {xs ys : List D} {vs us : List V} (h1 : ∀ H', Per H H' → SqL K H' p vs) (h2 : ∀ H', Per H H' → SqL K H' q us) (r1 : RepL K φ H xs vs) (r2 : RepL K φ H ys us) : Drv K φ H (Itz K p q) (pairsD xs ys) := fun φ' H' h l R => by
  have q1 := RepL.mono l.pre l.per _ _ r1
  have q2 := RepL.mono l.pre l.per _ _ r2
  refine ⟨fun i d e => ?_, vs, us, h1 _ l.per, h2 _ l.per, ?_⟩
  · obtain ⟨x, y, e1, e2, rfl⟩ := pairs_get e
    obtain ⟨v, z1, z2⟩ := q1.get e1
    obtain ⟨u, z3, z4⟩ := q2.get e2
    refine ⟨⟨vs, us, v, u, h1 _ l.per, h2 _ l.per, z1, z3⟩, fun w H2 yl => ?_⟩
    obtain ⟨T, v', u', rfl, hT, rfl, y1, y2⟩ := yl
    have w1 := y1 vs (h1 _ l.per)
    have w2 := y2 us (h2 _ l.per)
    rw [z1] at w1; rw [z3] at w2
    cases w1; cases w2
    exact pair_rep R hT z2 z4
  · rw [← q1.length, ← q2.length]
    exact pairs_len xs ys
theorem drv_zipT {K : PySem.W.Frag} {φ : List Addr} {H : Hp} {p q : Addr} {xs ys : List D} {vs us : List V} (h1 : ∀ H', Per H H' → SqT K H' p vs) (h2 : ∀ H', Per H H' → SqT K H' q us) (r1 : RepL K φ H xs vs) (r2 : RepL K φ H ys us) : Drv K φ H (RZ.ItzT K p q) (pairsD xs ys) := fun φ' H' h l R => by
  have q1 := RepL.mono l.pre l.per _ _ r1
  have q2 := RepL.mono l.pre l.per _ _ r2
  refine ⟨fun i d e => ?_, vs, us, h1 _ l.per, h2 _ l.per, ?_⟩
  · obtain ⟨x, y, e1, e2, rfl⟩ := pairs_get e
    obtain ⟨v, z1, z2⟩ := q1.get e1
    obtain ⟨u, z3, z4⟩ := q2.get e2
    refine ⟨⟨vs, us, v, u, h1 _ l.per, h2 _ l.per, z1, z3⟩, fun w H2 yl => ?_⟩
    obtain ⟨T, v', u', rfl, hT, rfl, y1, y2⟩ := yl
    have w1 := y1 vs (h1 _ l.per)
    have w2 := y2 us (h2 _ l.per)
    rw [z1] at w1; rw [z3] at w2
    cases w1; cases w2
    exact pair_rep R hT z2 z4
  · rw [← q1.length, ← q2.length]
    exact pairs_len xs ys
theorem drv_enum {K : PySem.W.Frag} {φ : List Addr} {H : Hp} {p : Addr} {xs : List D} {vs : List V} (h1 : ∀ H', Per H H' → SqL K H' p vs) (r1 : RepL K φ H xs vs) : Drv K φ H (Ite K p) (enumD 0 xs) := fun φ' H' h l R => by
  have q1 := RepL.mono l.pre l.per _ _ r1
  refine ⟨fun i d e => ?_, vs, h1 _ l.per, by rw [enum_len, q1.length]; exact Nat.le_refl _⟩
  obtain ⟨x, e1, rfl⟩ := enum_get e
  obtain ⟨v, z1, z2⟩ := q1.get e1
  refine ⟨⟨vs, v, h1 _ l.per, z1⟩, fun w H2 yl => ?_⟩
  obtain ⟨T, v', rfl, hT, rfl, y1⟩ := yl
  have w1 := y1 vs (h1 _ l.per)
  rw [z1] at w1
  cases w1
  rw [Nat.zero_add]
  exact pair_rep R hT (.int _) z2
theorem i_zip {elts : List Expr} {kk : Nat} {tpos p : Pos} (hg : Gl X "zip") (hm : X.mg "zip" = none) (ha : SA X cl W [a, b] fa) (hs : starEach [a, b] X.env = (false, eval a X.env) :: starEach [b] X.env := by rfl) (hpl : (backTo pos (starEach [b] X.env)).any (·.1) = false := by rfl) :
    SI X cl W (.Tuple elts kk tpos) (.Call (.Name "zip" p) [a, b] [] pos) (iZipD fa) := PI.of (RZ.pi_zipA hg hm ha hs hpl) fun σ H R p => by
  obtain ⟨φ, st, h0, S, R0, P⟩ := p
  refine ⟨φ, st, h0, S, R0, ?_⟩
  simp only [iZipD] at P
  cases e : fa st h0 with
  | bad => simp only [e, Rs.bind] at P
  | ex _ _ => simp only [e, Rs.bind] at P; exact P
  | ok xs h1 =>
    simp only [e, Rs.bind] at P
    intro φ1 H1 vs l1 r1 q1
    cases ez : zipD xs with
    | none => rw [ez] at P; exact P.elim
    | some ds =>
      rw [ez] at P
      rcases zip_cases ez with ⟨a, b, rfl, rfl⟩ | ⟨x, y, a, b, rfl, f1, f2, rfl⟩
      · cases q1 with
        | cons q1 q2 =>
          cases q2 with
          | cons q2 q3 =>
            cases q3
            cases q1 with
            | tup g1 g2 =>
              cases q2 with
              | tup g3 g4 => exact ⟨_, _, _, _, rfl, .inr ⟨SqT.of g1, SqT.of g3, P φ1 H1 _ l1 r1 (drv_zipT (fun H' p => SqT.of (p.tup _ _ g1)) (fun H' p => SqT.of (p.tup _ _ g3)) g2 g4)⟩⟩
      · cases q1 with
        | cons q1 q2 =>
          cases q2 with
          | cons q2 q3 =>
            cases q3
            obtain ⟨p, us, rfl, g1, g2⟩ := frz_at q1 f1
            obtain ⟨q, ws, rfl, g3, g4⟩ := frz_at q2 f2
            exact ⟨p, q, us, ws, rfl, .inl ⟨g1 _ (Per.refl _), g3 _ (Per.refl _), P φ1 H1 _ l1 r1 (drv_zipL g1 g3 g2 g4)⟩⟩
theorem i_enum {elts : List Expr} {kk : Nat} {tpos p : Pos} (hg : Gl X "enumerate") (hm : X.mg "enumerate" = none) (ha : SA X cl W [a] fa) (hs : starEach [a] X.env = [(false, eval a X.env)] := by rfl) :
    SI X cl W (.Tuple elts kk tpos) (.Call (.Name "enumerate" p) [a] [] pos) (iEnumD fa) := PI.of (pi_enum hg hm ha hs) fun σ H R p => by
  obtain ⟨φ, st, h0, S, R0, P⟩ := p
  refine ⟨φ, st, h0, S, R0, ?_⟩
  simp only [iEnumD] at P
  cases e : fa st h0 with
  | bad => simp only [e, Rs.bind] at P
  | ex _ _ => simp only [e, Rs.bind] at P; exact P
  | ok xs h1 =>
    simp only [e, Rs.bind] at P
    intro φ1 H1 vs l1 r1 q1
    rcases xs with _ | ⟨x, _ | _⟩ <;> simp only [numD, ofO] at P
    cases f1 : frzOf x with
    | none => rw [f1] at P; exact P.elim
    | some a =>
      rw [f1] at P
      obtain ⟨v, rfl, rv⟩ := RepL.one q1
      obtain ⟨p, us, rfl, g1, g2⟩ := frz_at rv f1
      exact ⟨p, us, rfl, g1 _ (Per.refl _), P φ1 H1 _ l1 r1 (drv_enum g1 g2)⟩
end
end Y
end

section
set_option Elab.async false
set_option linter.all false
set_option maxRecDepth 100000
set_option maxHeartbeats 2000000
/-! YR: slices. -/
namespace Y
open PySem PySem.Spec PyProof.Rows L2

abbrev Ov := Sl → Hm → Rs (Option Int)
def oN : Ov := fun _ h => .ok none h
def oS (f : Ev) : Ov := fun σ h => (f σ h).bind fun x h1 => match x with
  | .int i => .ok (some i) h1
  | _ => .bad
def cutD (xs : List D) (lo hi : Option Int) : List D := (xs.drop (HT.sIx xs.length 0 lo)).take (HT.sIx xs.length xs.length hi - HT.sIx xs.length 0 lo)
/-- x[lo:hi]: of a tuple a tuple, of a list a list that is held as it is -/
def eSl (f : Ev) (l u : Ov) : Ev := fun σ h => (f σ h).bind fun x h1 => (l σ h1).bind fun lo h2 => (u σ h2).bind fun hi h3 => match x with
  | .tup xs => .ok (.tup (cutD xs lo hi)) h3
  | x => match lstOf h3 x with
    | some xs => .ok (.fl (cutD xs lo hi)) h3
    | none => .bad
def ROpt : RT (Option Int) (Option Int) := fun _ _ _ a b => a = b
instance : Back ROpt := ⟨fun _ _ h => h⟩
abbrev SO (X : Cx) (cl : Nat → Addr) (W : WX) (e : Option Expr) (f : Ov) : Prop := PO X e (tG X.K cl W ROpt f)
section
variable {X : Cx} {cl : Nat → Addr} {W : WX} {a : Expr} {e : Option Expr} {f : Ev} {l u : Ov} {pos p2 : Pos} {lo hi : Option Expr}
theorem o_none : SO X cl W none oN := ⟨fun pins s σ H Q I ⟨φ, st, h0, S, R, P⟩ => po_none.run pins s σ H Q I (P.val R rfl)⟩
theorem o_some {a : Expr} (h : SE X cl W a f) : SO X cl W (some a) (oS f) := by
  refine ⟨fun pins s σ H Q I p => (po_some h).run pins s σ H Q I ?_⟩
  refine seq1 (k := fun x h1 => match x with | .int i => .ok (some i) h1 | _ => .bad) p fun φ H1 h1 x v R rx P => ?_
  cases rx with
  | int i => exact ⟨i, rfl, P.val R rfl⟩
  | _ => exact P.elim
theorem RepL.cut' {K : PySem.W.Frag} {φ : List Addr} {H : Hp} {xs : List D} {vs : List V} (r : RepL K φ H xs vs) (lo hi : Option Int) : RepL K φ H (cutD xs lo hi) (cutV vs lo hi) := by
  have dropR : ∀ (n : Nat) {xs : List D} {vs : List V}, RepL K φ H xs vs → RepL K φ H (xs.drop n) (vs.drop n) := by
    intro n
    induction n with
    | zero => intro xs vs r; simpa using r
    | succ n ih =>
      intro xs vs r
      cases r with
      | nil => simp; exact .nil
      | cons _ r => simpa using ih r
  have takeR : ∀ (n : Nat) {xs : List D} {vs : List V}, RepL K φ H xs vs → RepL K φ H (xs.take n) (vs.take n) := by
    intro n
    induction n with
    | zero => intro xs vs r; simp; exact .nil
    | succ n ih =>
      intro xs vs r
      cases r with
      | nil => simp; exact .nil
      | cons h r => simpa using .cons h (ih r)
  unfold cutD cutV
  rw [r.length]
  exact takeR _ (dropR _ r)
theorem cut_all {vs : List V} {lo hi : Option Int} (h : HT.sIx vs.length 0 lo = 0 ∧ HT.sIx vs.length vs.length hi = vs.length) : cutV vs lo hi = vs := by
  unfold cutV
  rw [h.1, h.2]
  simp
theorem s_sl (ha : SE X cl W a f) (hl : SO X cl W lo l) (hu : SO X cl W hi u) : SE X cl W (.Subscript a (.Slice lo hi none p2) pos) (eSl f l u) := by
  refine ⟨fun pins s σ H Q I p => ?_⟩
  refine thn ((pe_slice (sl_tupA.or sl_list) ha hl hu).run pins s σ H (fun v H1 => Q v H1 ∨ ∃ p vs, v = .ref p ∧ H1 p = some (.lst vs) ∧ ∀ o, Q v (upd H1 p (.frz o (.lst vs)))) I ?_) fun w s1 ⟨v, H1, I1, rv, q⟩ => ?_
  · obtain ⟨φ, st, h0, S, R0, P⟩ := p
    refine ⟨φ, st, h0, S, R0, P.seq fun x h1 φ1 H1 v l1 r1 q1 P1 => ⟨φ1, st, h1, S.mono l1, r1, P1.seq fun lo h2 φ2 H2 lo' l2 r2 e2 P2 => ⟨φ2, st, h2, S.mono (l1.trans l2), r2, P2.seq fun hi h3 φ3 H3 hi' l3 r3 e3 P3 => ?_⟩⟩⟩
    cases (show lo = lo' from e2)
    cases (show hi = hi' from e3)
    have q3 := Rep.mono (l2.trans l3).pre (l2.trans l3).per _ _ q1
    have lists : ∀ xs, lstOf h3 x = some xs → Post X.K cl φ3 H3 (RR X.K) (.ok (.fl (cutD xs lo hi)) h3) Q (fun c d H' => W c d σ H') → rSlL X.K v lo hi H3 fun v H1 => Q v H1 ∨ ∃ p vs, v = .ref p ∧ H1 p = some (.lst vs) ∧ ∀ o, Q v (upd H1 p (.frz o (.lst vs))) := by
      intro xs ex P
      obtain ⟨a, vs, rfl, hq, rr⟩ := lst_at r3 q3 ex
      refine ⟨a, vs, rfl, hq, fun p hp => .inr ⟨p, _, rfl, upd_same, fun o => ?_⟩⟩
      have R1 := r3.new (o := .lst (cutV vs lo hi)) hp
      have rr1 := RepL.mono (List.prefix_refl _) (Per.new (o := .lst (cutV vs lo hi)) hp) _ _ (rr.cut' lo hi)
      obtain ⟨z1, z2, z3⟩ := Fresh.frz (o := o) (Lat.new hp) hp R1 (r3.notin hp) upd_same rr1
      exact P φ3 _ _ z1 z2 z3
    cases q3 with
    | tup hq rr =>
      refine .inl ⟨_, _, rfl, SqT.of hq, fun hw => .inl ?_, fun hw p hp => .inl ?_⟩
      · have rc := rr.cut' lo hi
        rw [cut_all hw] at rc
        exact P3 φ3 H3 _ (Lat.refl _ _) r3 (.tup hq rc)
      · exact P3 φ3 _ _ (Lat.new hp) (r3.new hp) (.tup upd_same (RepL.mono (List.prefix_refl _) (Per.new hp) _ _ (rr.cut' lo hi)))
    | fl hq rr => exact .inr (lists _ rfl P3)
    | sq hq rr => exact .inr (lists _ rfl P3)
    | loc hk =>
      simp only at P3
      cases el : lstOf h3 (.loc _) with
      | none => rw [el] at P3; exact P3.elim
      | some xs => rw [el] at P3; exact .inr (lists _ el P3)
    | _ => exact P3.elim
  · rcases q with q | ⟨p, vs, rfl, e1, q⟩
    · exact ⟨v, H1, I1, rv, q⟩
    · obtain ⟨o, I2⟩ := inv_frz I1 e1
      exact ⟨_, _, I2, rv, q o⟩
end
end Y
end

section
set_option Elab.async false
set_option linter.all false
set_option maxRecDepth 100000
set_option maxHeartbeats 2000000
/-! YS: x += e. -/
namespace Y
open PySem PySem.Spec PyProof.Rows L2

def oAddI (_ : Hm) : D → D → Option D
  | .int i, .int j => some (.int (i + j))
  | .str a, .str b => if a.length + b.length ≤ line then some (.str (a ++ b)) else none
  | _, _ => none
section
variable {X : Cx} {cl : Nat → Addr} {W : WX} {e : Expr} {f : Ev} {pos pos' : Pos} {k : Nat}
theorem z_add : OpY X (inplaceOp .Add) oAddI := opY1 fun Q φ H h x y v u z R rx ry e q => by
  cases rx <;> cases ry <;> simp only [oAddI] at e <;> try (cases e; done)
  · cases e
    exact ⟨_, iop_add, _, _, rfl, rfl, q _ (.int _)⟩
  · split at e
    · cases e
      exact ⟨_, iop_add_str, _, _, rfl, rfl, by rw [← line_eq]; assumption, q _ (.str _)⟩
    · cases e
theorem z_sub : OpY X (inplaceOp .Sub) oSub := opY1 fun Q φ H h x y v u z R rx ry e q => by
  cases rx <;> cases ry <;> simp [oSub] at e
  subst e
  exact ⟨_, iop_sub, _, _, rfl, rfl, q _ (.int _)⟩
theorem z_mul : OpY X (inplaceOp .Mult) oMul := opY1 fun Q φ H h x y v u z R rx ry e q => by
  cases rx <;> cases ry <;> simp [oMul] at e
  obtain ⟨c, rfl⟩ := e
  refine ⟨_, iop_mul, _, _, rfl, rfl, ?_, q _ (.int _)⟩
  simp only [mulOk, Bool.or_eq_true, Bool.and_eq_true, decide_eq_true_eq, big_eq] at c
  exact c
theorem s_aug {i : Nat} {x : Str} {op : Operator} {o : Hm → D → D → Option D} (ho : OpY X (inplaceOp op) o) (hN : X.N.Nodup) (he : SE X cl W e f) (hi : X.N[i]? = some x := by rfl) (hx : Loc X.env.scope x := by first | exact Or.inl rfl | exact Or.inr rfl)
    (hf : X.fn x = true ∨ X.env.scope.names.lookup x = some .local := by first | exact .inl rfl | exact .inr rfl | assumption) : SS X cl W (.AugAssign (.Name x pos') op e pos) (sAug i o f) :=
  PS.of (ps_aug (ti := rY X.K o) hN hi hx he ho.r hf) fun D σ H p => by
    obtain ⟨φ, st, h0, S, R0, P⟩ := p
    unfold sAug at P
    cases e0 : st[i]? with
    | none => rw [e0] at P; exact P.elim
    | some oo =>
      cases oo with
      | none => rw [e0] at P; exact P.elim
      | some d0 =>
        rw [e0] at P
        simp only at P
        obtain ⟨v0, h1, rv0⟩ := S.get i d0 e0
        refine ⟨v0, h1, φ, st, h0, S, R0, ?_⟩
        cases e1 : f st h0 with
        | bad => simp only [e1, Rs.out] at P; exact P
        | ex ex1 h1 =>
          simp only [e1, Rs.out] at P
          exact fun φ' H' c d l r er => P φ' H' c d σ l r (S.mono l) er
        | ok y h1 =>
          simp only [e1, Rs.out] at P
          intro φ1 H1 w l1 r1 q1
          refine ⟨cl, fun c d H' => W c d σ H', φ1, h1, d0, y, r1, Rep.mono l1.pre l1.per _ _ rv0, q1, ?_⟩
          cases e2 : o h1 d0 y with
          | none => rw [e2] at P; exact P.elim
          | some z =>
            rw [e2] at P
            exact fun φ2 H2 w2 l2 r2 q2 => P φ2 H2 _ (l1.trans l2) r2 ((S.mono (l1.trans l2)).set i q2)
end
end Y
end

section
set_option Elab.async false
set_option linter.all false
set_option maxRecDepth 100000
set_option maxHeartbeats 2000000
/-! YT: objects of own classes: their fields, isinstance. -/
namespace Y
open PySem PySem.Spec PyProof.Rows L2

/-- x.n, x of the class c -/
def oFld (c n : Str) (_ : Hm) : D → Option D
  | .obj c' ns ds => if c' = c then (ns.zip ds).lookup n else none
  | _ => none
/-- isinstance(x, c) -/
def isO (c : Str) (h : Hm) : D → Option D
  | .obj c' _ _ => if c' = c then some (.bl true) else none
  | .loc k => (h[k]?).map fun _ => .bl false
  | _ => some (.bl false)
/-- what is known of the class -/
structure ObjF (K : PySem.W.Frag) (c : Str) (C : Addr) : Prop where
  ns : PySem.W.nsIn K mainGlobals c = some (some (.ref C))
  cl : Cls K C
  hc : PySem.W.findIn K (.ref C) "__class__" = some (some (.builtin "object.__class__"))
  gc : PySem.W.specialIn K (.builtin "object.__class__") "__get__" = some (some (.builtin "getset_descriptor.__get__"))
  tc : PySem.W.takesIn K (.builtin "object.__class__") = some true
  mc : PySem.W.mroIn K C (.type "object") = some true
  me : PySem.W.kitOne K (.ref C) (.ref C) = some true
  ot : ∀ T ∈ ["NoneType", "bool", "int", "str", "tuple", "list", "dict"], PySem.W.kitOne K (.type T) (.ref C) = some false
section
variable {X : Cx} {cl : Nat → Addr} {W : WX} {a : Expr} {f : Ev} {pos : Pos} {k : Nat} {c n : Str} {C : Addr}
theorem fld_at {K : PySem.W.Frag} {φ : List Addr} {H : Hp} {n : Str} {d : D} : ∀ {fs : List (Str × V)} {ds : List D}, RepL K φ H ds (fs.map (·.2)) → ((fs.map (·.1)).zip ds).lookup n = some d → ∃ v, fs.lookup n = some v ∧ Rep K φ H d v
  | [], ds, _, e => by simp at e
  | (m, v) :: fs, [], r, e => by cases r
  | (m, v) :: fs, x :: ds, r, e => by
    cases r with
    | cons h r =>
      simp only [List.map_cons, List.zip_cons_cons, List.lookup_cons] at e ⊢
      cases hm : (n == m) with
      | true =>
        rw [hm] at e
        simp only at e
        cases e
        exact ⟨v, rfl, h⟩
      | false =>
        rw [hm] at e
        simp only at e
        exact fld_at r e
theorem s_fld (T : ObjF X.K c C) (no : NoAttr X.K C n) (ha : SE X cl W a f) (hb : attributeBase a n X.env (eval a X.env) = eval a X.env := by rfl) : SE X cl W (.Attribute a n pos) (e1 (oFld c n) f) := PE.of (pe_fld ha hb) fun σ H Q p =>
  seq1 (k := fun x h1 => ofO (oFld c n h1 x) h1) p fun φ H1 h1 x v R rx P => by
    cases rx <;> simp only [oFld, ofO] at P <;> try (exact P.elim)
    rename_i a' C' dx c' ns fs ds vs hc h e1 e2 r hf
    subst e1 e2
    split at P
    · rename_i d ed
      split at ed
      · rename_i ecc
        subst ecc
        have eC : C' = C := by
          have := hc.symm.trans T.ns
          cases this
          rfl
        subst eC
        obtain ⟨v, h1, h2⟩ := fld_at r ed
        exact ⟨_, _, _, _, v, rfl, h, T.cl, no, h1, P.val R h2⟩
      · cases ed
    · exact P.elim
theorem isO_sound (T : ObjF X.K c C) {φ : List Addr} {H : Hp} {h : Hm} {x : D} {v : V} {z : D} (R : HR X.K φ H h) (rx : Rep X.K φ H x v) (e : isO c h x = some z) : ∃ t b, z = .bl b ∧ TyX X.K H v t ∧ PySem.W.kitOne X.K t (.ref C) = some b := by
  have tupK : ∀ {a : Addr} {vs : List V}, SqT X.K H a vs → TyX X.K H (.ref a) (.type "tuple") := fun hq => by
    rcases hq with (h | ⟨o, h⟩) | ⟨o, its, n, hk, hc, _⟩
    · exact .base (.tup h)
    · exact .fTuple h
    · exact .kTuple hk hc
  have lstK : ∀ {a : Addr} {vs : List V}, SqL X.K H a vs → TyX X.K H (.ref a) (.type "list") := fun hq => by
    rcases hq with (h | ⟨o, h⟩) | ⟨o, its, n, hk, hc, _⟩
    · exact .base (.lst h)
    · exact .base (.frz h)
    · exact .kList hk hc
  cases rx with
  | non => simp only [isO] at e; cases e; exact ⟨_, _, rfl, .base .non, T.ot _ (by decide)⟩
  | bl b => simp only [isO] at e; cases e; exact ⟨_, _, rfl, .base (.bl b), T.ot _ (by decide)⟩
  | int b => simp only [isO] at e; cases e; exact ⟨_, _, rfl, .base (.int b), T.ot _ (by decide)⟩
  | str b => simp only [isO] at e; cases e; exact ⟨_, _, rfl, .base (.str b), T.ot _ (by decide)⟩
  | tup hq _ => simp only [isO] at e; cases e; exact ⟨_, _, rfl, tupK (SqT.of hq), T.ot _ (by decide)⟩
  | fl hq _ => simp only [isO] at e; cases e; exact ⟨_, _, rfl, lstK (.inl (.inr ⟨_, hq⟩)), T.ot _ (by decide)⟩
  | sq hq _ => simp only [isO] at e; cases e; exact ⟨_, _, rfl, lstK hq.sq, T.ot _ (by decide)⟩
  | loc hk =>
    obtain ⟨ob, h1, h2⟩ := R.at hk
    simp only [isO, h1, Option.map_some] at e
    cases e
    cases h2 with
    | lst hh _ => exact ⟨_, _, rfl, .base (.lst hh), T.ot _ (by decide)⟩
    | dct hh _ => exact ⟨_, _, rfl, .base (.dK hh), T.ot _ (by decide)⟩
    | dtu hh _ => exact ⟨_, _, rfl, .base (.dT hh), T.ot _ (by decide)⟩
  | obj hc h e1 e2 r =>
    simp only [isO] at e
    split at e
    · rename_i ecc
      subst ecc
      have := hc.symm.trans T.ns
      cases this
      cases e
      exact ⟨_, _, rfl, .base (.ins h T.cl T.hc T.gc T.tc T.mc), T.me⟩
    · cases e
theorem s_isO {p1 p2 : Pos} (T : ObjF X.K c C) (gm : X.mg c = some (.ref C)) (ha : SE X cl W a f) (hm : X.mg "isinstance" = none) (hg : Gl X "isinstance" := by rfl) (hg2 : Gl X c := by rfl) (hd : (c == ("__debug__" : Str)) = false := by decide)
    (he : starEach [a, .Name c p2] X.env = (false, eval a X.env) :: starEach [.Name c p2] X.env := by rfl)
    (he2 : starEach [.Name c p2] X.env = (false, eval (.Name c p2) X.env) :: starEach [] X.env := by rfl)
    (hpl : (backTo pos (starEach [.Name c p2] X.env)).any (·.1) = false := by rfl) :
    SE X cl W (.Call (.Name "isinstance" p1) [a, .Name c p2] [] pos) (e1 (isO c) f) := by
  have pn : PE X (.Name c p2) (L2.tC (.ref C)) := ⟨fun pins s σ H Q I q => ld_glob I hg2 gm ⟨.ref C, H, I, rfl, q⟩ hd⟩
  refine PE.of (pe_callB call_isi hg hm (by decide +kernel) (pa_cons ha (pa_cons pn pa_nil he2) he) (by decide) (by decide) he hpl) fun σ H Q p => ?_
  refine seq1 (k := fun x h1 => ofO (isO c h1 x) h1) p fun φ H1 h1 x v R rx P => ?_
  cases e : isO c h1 x with
  | none => rw [e] at P; exact P.elim
  | some z =>
    rw [e] at P
    obtain ⟨t, b, rfl, h2, h3⟩ := isO_sound T R rx e
    exact ⟨v, .ref C, t, .ref C, b, rfl, .own C, h2, h3, P.val R (.bl b)⟩
end
end Y
end

section
set_option Elab.async false
set_option linter.all false
set_option maxRecDepth 100000
set_option maxHeartbeats 2000000
/-! YU: min, max of two ints; list(range(..)). -/
namespace Y
open PySem PySem.Spec PyProof.Rows L2
/-- max(i, j), min(i, j) -/
def bMax2 (_ : Hm) : List D → Option D
  | [.int i, .int j] => some (.int (if j > i then j else i))
  | _ => none
def bMin2 (_ : Hm) : List D → Option D
  | [.int i, .int j] => some (.int (if j < i then j else i))
  | _ => none
/-- list(range(..)) -/
def mRng1 : D → Option (List D)
  | .int j => if 0 ≤ j ∧ j.natAbs.log2 < 24 then some (rangeD 0 j.toNat) else none
  | _ => none
def mRng2 : D → D → Option (List D)
  | .int i, .int j => if 0 ≤ i ∧ i.natAbs.log2 < 24 ∧ 0 ≤ j ∧ j.natAbs.log2 < 24 then some (rangeD i (j - i).toNat) else none
  | _, _ => none
def lRng1 (f : Ev) : Lv := fun σ h => (f σ h).bind fun x h1 => ofO (mRng1 x) h1
def lRng2 (f g : Ev) : Lv := fun σ h => (f σ h).bind fun x h1 => (g σ h1).bind fun y h2 => ofO (mRng2 x y) h2
section
variable {X : Cx} {cl : Nat → Addr} {W : WX} {a b : Expr} {fa fb : Ev} {pos : Pos}
theorem c_max2 (hc : X.calm = true) : CaY X (.builtin "max") bMax2 := caY fun Q φ H h xs vs z R r e q => by
  unfold bMax2 at e
  split at e
  · rename_i i j
    cases e
    cases r with
    | cons r1 r2 =>
      obtain ⟨w, rfl, rw'⟩ := RepL.one r2
      cases rw'
      cases r1
      exact ⟨_, call_max2 hc, i, j, rfl, q φ H _ (Lat.refl _ _) R (.int _)⟩
  · cases e
theorem c_min2 (hc : X.calm = true) : CaY X (.builtin "min") bMin2 := caY fun Q φ H h xs vs z R r e q => by
  unfold bMin2 at e
  split at e
  · rename_i i j
    cases e
    cases r with
    | cons r1 r2 =>
      obtain ⟨w, rfl, rw'⟩ := RepL.one r2
      cases rw'
      cases r1
      exact ⟨_, call_min2 hc, i, j, rfl, q φ H _ (Lat.refl _ _) R (.int _)⟩
  · cases e
theorem rep_rg {K : PySem.W.Frag} {φ : List Addr} {H : Hp} (lo : Int) : ∀ (js : List Nat), RepL K φ H (js.map fun i => D.int (lo + (i : Nat))) (js.map fun i => V.int (lo + (i : Nat)))
  | [] => .nil
  | _ :: js => .cons (.int _) (rep_rg lo js)
theorem log24 {j : Int} (h : 0 ≤ j) (h2 : j.natAbs.log2 < 24) : j ≤ 16777216 := by
  have := log2_lt h2
  omega
theorem l_rng1 {p p2 pos2 : Pos} (hc : X.calm = true) (hg : Gl X "list") (hm : X.mg "list" = none) (hg2 : Gl X "range") (hm2 : X.mg "range" = none) (ha : SE X cl W a fa)
    (na : starEach [a] X.env = (false, eval a X.env) :: starEach [] X.env := by rfl)
    (nr : starEach [.Call (.Name "range" p2) [a] [] pos2] X.env = (false, eval (.Call (.Name "range" p2) [a] [] pos2) X.env) :: starEach [] X.env := by rfl) :
    SL X cl W (.Call (.Name "list" p) [.Call (.Name "range" p2) [a] [] pos2] [] pos) (lRng1 fa) := PE.of (pe_listRg hc hg hm (prg_1 hg2 hm2 ha na) nr) fun σ H Q p =>
  seq1 (k := fun x h1 => ofO (mRng1 x) h1) p fun φ H1 h1 x v R r P => by
    unfold mRng1 at P
    split at P
    · rename_i j
      split at P
      · rename_i hj
        cases r
        refine ⟨j, rfl, RgOk.of_le (by decide) (log24 hj.1 hj.2) (by decide) hj.1, fun l hl => P φ _ _ (Lat.new hl) (R.new hl) ?_⟩
        have := fresh_new R hl (rep_rg (K := X.K) (φ := φ) (H := H1) 0 (List.range j.toNat))
        simpa [rgV, rangeD] using this
      · exact P.elim
    · exact P.elim
theorem l_rng2 {p p2 pos2 : Pos} (hc : X.calm = true) (hg : Gl X "list") (hm : X.mg "list" = none) (hg2 : Gl X "range") (hm2 : X.mg "range" = none) (ha : SE X cl W a fa) (hb : SE X cl W b fb)
    (na : starEach [a, b] X.env = (false, eval a X.env) :: starEach [b] X.env := by rfl) (nb : starEach [b] X.env = (false, eval b X.env) :: starEach [] X.env := by rfl) (hp : (backTo pos2 (starEach [b] X.env)).any (·.1) = false := by rfl)
    (nr : starEach [.Call (.Name "range" p2) [a, b] [] pos2] X.env = (false, eval (.Call (.Name "range" p2) [a, b] [] pos2) X.env) :: starEach [] X.env := by rfl) :
    SL X cl W (.Call (.Name "list" p) [.Call (.Name "range" p2) [a, b] [] pos2] [] pos) (lRng2 fa fb) := PE.of (pe_listRg hc hg hm (prg_2 hg2 hm2 ha hb na nb hp) nr) fun σ H Q p =>
  seq2 (k := fun x y h2 => ofO (mRng2 x y) h2) p fun φ H1 h1 x y v u R rx ry P => by
    unfold mRng2 at P
    split at P
    · rename_i i j
      split at P
      · rename_i hj
        cases rx
        cases ry
        refine ⟨i, j, rfl, rfl, RgOk.of_le hj.1 (log24 hj.2.2.1 hj.2.2.2) (log24 hj.1 hj.2.1) hj.2.2.1, fun l hl => P φ _ _ (Lat.new hl) (R.new hl) ?_⟩
        have := fresh_new R hl (rep_rg (K := X.K) (φ := φ) (H := H1) i (List.range (j - i).toNat))
        simpa [rgV, rangeD] using this
      · exact P.elim
    · exact P.elim
end
end Y
end

section
set_option Elab.async false
set_option linter.all false
set_option maxRecDepth 100000
set_option maxHeartbeats 2000000
/-! YV: an own class and the names of its fields, in one structure. -/
namespace Y
open PySem PySem.Spec PyProof.Rows L2
/-- the own class c, whose objects have the fields ns -/
structure Ocl (K : PySem.W.Frag) (mg : Str → Option Value) (c : Str) (ns : List Str) : Prop where
  ex : ∃ C : Addr, mg c = some (.ref C) ∧ ObjF K c C ∧ ∀ n ∈ ns, NoAttr K C n
section
variable {X : Cx} {cl : Nat → Addr} {W : WX} {a : Expr} {f : Ev} {pos : Pos} {c : Str} {ns : List Str}
theorem s_fl (T : Ocl X.K X.mg c ns) (n : Str) (hn : n ∈ ns) (ha : SE X cl W a f) (hb : attributeBase a n X.env (eval a X.env) = eval a X.env := by rfl) : SE X cl W (.Attribute a n pos) (e1 (oFld c n) f) := by
  obtain ⟨C, _, o, h⟩ := T.ex
  exact s_fld o (h n hn) ha hb
theorem s_iO {p1 p2 : Pos} (T : Ocl X.K X.mg c ns) (hm : X.mg "isinstance" = none) (ha : SE X cl W a f) (hg : Gl X "isinstance" := by rfl) (hg2 : Gl X c := by rfl) (hd : (c == ("__debug__" : Str)) = false := by decide)
    (he : starEach [a, .Name c p2] X.env = (false, eval a X.env) :: starEach [.Name c p2] X.env := by rfl)
    (he2 : starEach [.Name c p2] X.env = (false, eval (.Name c p2) X.env) :: starEach [] X.env := by rfl)
    (hpl : (backTo pos (starEach [.Name c p2] X.env)).any (·.1) = false := by rfl) :
    SE X cl W (.Call (.Name "isinstance" p1) [a, .Name c p2] [] pos) (e1 (isO c) f) := by
  obtain ⟨C, gm, o, h⟩ := T.ex
  exact s_isO o gm ha hm hg hg2 hd he he2 hpl
theorem Ocl.mk' {K : PySem.W.Frag} {mg : Str → Option Value} {C : Addr} (gm : mg c = some (.ref C)) (o : ObjF K c C) (h : ∀ n ∈ ns, PySem.W.findIn K (.ref C) n = some none) : Ocl K mg c ns := ⟨C, gm, o, h⟩
end
end Y
end

section
set_option Elab.async false
set_option linter.all false
set_option maxRecDepth 100000
set_option maxHeartbeats 2000000
/-! YW: comprehensions with two fors. -/
namespace Y
open PySem PySem.Spec PyProof.Rows L2
/-- the inner walk, at one element of the outer one -/
def inn (c : Tv) (it1 : Iv) (g1 : Gv) (t1 : Tv) (f : Ev) (vs1 : List Nat) : Sl → Hm → Rs (List D) := fun σ h => (c σ h).bindN fun b h1 => if b = true then (it1 σ h1).bindN fun ds1 h2 => compL g1 t1 f (unset σ vs1) ds1 h2 else .ok [] h1
def comp2L (g : Gv) (m : Sl → Hm → Rs (List D)) (σ : Sl) : List D → Hm → Rs (List D)
  | [], h => .ok [] h
  | d :: ds, h => match g d σ with
    | none => .bad
    | some σ1 => (m σ1 h).bindN fun ys h1 => (comp2L g m σ ds h1).bindN fun zs h2 => .ok (ys ++ zs) h2
/-- [f for g in it if c for g1 in it1 if t1] -/
def lComp2 (it : Iv) (g : Gv) (c : Tv) (it1 : Iv) (g1 : Gv) (t1 : Tv) (f : Ev) (vs vs1 : List Nat) : Lv := fun σ h => (it σ h).bind fun ds h1 => (comp2L g (inn c it1 g1 t1 f vs1) (unset σ vs) ds h1).bind fun ys h2 => if ys.length ≤ line then .ok ys h2 else .bad
theorem bindN_ok {α β : Type} {r : Rs α} {k : α → Hm → Rs β} {b : β} {h : Hm} (e : r.bindN k = .ok b h) : ∃ a h1, r = .ok a h1 ∧ k a h1 = .ok b h := by
  cases r with
  | ok a h1 => exact ⟨a, h1, rfl, e⟩
  | ex _ _ => simp [Rs.bindN] at e
  | bad => simp [Rs.bindN] at e
theorem bindN_ex {α β : Type} {r : Rs α} {k : α → Hm → Rs β} {x : Exn} {h : Hm} (e : r.bindN k = .ex x h) : ∃ a h1, r = .ok a h1 ∧ k a h1 = .ex x h := by
  cases r with
  | ok a h1 => exact ⟨a, h1, rfl, e⟩
  | ex _ _ => simp [Rs.bindN] at e
  | bad => simp [Rs.bindN] at e
theorem compL_ne {g : Gv} {t : Tv} {f : Ev} {σ : Sl} : ∀ {ds : List D} {h : Hm} {x : Exn} {h2 : Hm}, compL g t f σ ds h ≠ .ex x h2
  | [], h, x, h2, q => by simp [compL] at q
  | d :: ds, h, x, h2, q => by
    simp only [compL] at q
    split at q
    · cases q
    · obtain ⟨c, h3, _, q⟩ := bindN_ex q
      split at q
      · obtain ⟨y, h4, _, q⟩ := bindN_ex q
        obtain ⟨ys, h5, _, q⟩ := bindN_ex q
        cases q
      · exact compL_ne q
theorem inn_ne {c : Tv} {it1 : Iv} {g1 : Gv} {t1 : Tv} {f : Ev} {vs1 : List Nat} {σ : Sl} {h : Hm} {x : Exn} {h2 : Hm} (q : inn c it1 g1 t1 f vs1 σ h = .ex x h2) : False := by
  obtain ⟨b, h3, _, q⟩ := bindN_ex (show (c σ h).bindN _ = _ from q)
  split at q
  · obtain ⟨y, h4, _, q⟩ := bindN_ex q
    exact compL_ne q
  · cases q
theorem comp2L_ne {g : Gv} {c : Tv} {it1 : Iv} {g1 : Gv} {t1 : Tv} {f : Ev} {vs1 : List Nat} {σ : Sl} : ∀ {ds : List D} {h : Hm} {x : Exn} {h2 : Hm}, comp2L g (inn c it1 g1 t1 f vs1) σ ds h ≠ .ex x h2
  | [], h, x, h2, q => by simp [comp2L] at q
  | d :: ds, h, x, h2, q => by
    simp only [comp2L] at q
    split at q
    · cases q
    · obtain ⟨c, h3, _, q⟩ := bindN_ex q
      obtain ⟨ys, h5, _, q⟩ := bindN_ex q
      cases q
theorem SR.wk {K : PySem.W.Frag} {φ φ' : List Addr} {H H' : Hp} {st : Sl} {σ : L2.St} (x : SR K φ H st σ) (l : Wk φ H φ' H') : SR K φ' H' st σ :=
  ⟨x.len, fun i d e => let ⟨v, h1, h2⟩ := x.get i d e; ⟨v, h1, Rep.mono l.pre l.per _ _ h2⟩⟩
theorem Wk.wr {φ φ' : List Addr} {H H' : Hp} {D : Addr} {u v : HO} (a : Wk φ H φ' H') (e : H' D = some u) (m : mutO u = true) : Wk φ H φ' (upd H' D v) := ⟨a.pre, a.per.trans (Per.wr e m)⟩
section
variable {X : Cx} {cl : Nat → Addr} {W : WX} {elt tg iter tg1 iter1 : Expr} {ifs ifs1 : List Expr} {it it1 : Iv} {g g1 : Gv} {is is1 vs1 : List Nat} {t t1 : Tv} {f : Ev} {scope : Scope} {own : List (Str × Nat)} {pos : Pos}
theorem comp2_go (his : ∀ i ∈ is, i ∈ own.map (·.2)) (his1 : ∀ i ∈ is1, i ∈ vs1) {σ : L2.St} {H : Hp} {Q : VK} (p : tG X.K cl W (Fresh X.K) (lComp2 it g t it1 g1 t1 f (own.map (·.2)) vs1) σ H Q) :
    tLc2 (tI X.K cl W it) (tGv X.K g is) (tG X.K cl W0 RBool t) (tI X.K cl W0 it1) (tGv X.K g1 is1) (tG X.K cl W0 RBool t1) (tG X.K cl W0 (RR X.K) f) (own.map (·.2)) vs1 σ H Q := by
  obtain ⟨φ, st, h0, S, R0, P⟩ := p
  refine ⟨φ, st, h0, S, R0, ?_⟩
  unfold lComp2 at P
  cases e : it st h0 with
  | bad => simp only [e, Rs.bind] at P; exact P
  | ex ex1 h1 => simp only [e, Rs.bind] at P; exact P
  | ok ds h1 =>
    simp only [e, Rs.bind] at P
    intro φ1 H1 J l1 r1 dv D hD
    generalize hM : inn t it1 g1 t1 f vs1 = M at P
    cases e1 : comp2L g M (unset st (own.map (·.2))) ds h1 with
    | bad => rw [e1] at P; exact P.elim
    | ex ex1 h2 => subst hM; exact (comp2L_ne e1).elim
    | ok res hf =>
      rw [e1] at P
      simp only at P
      split at P
      · rename_i hlen
        have nD1 : D ∉ φ1 := r1.notin hD
        have nD0 : H D = none := l1.gone nD1 hD
        refine ⟨fun i m H2 => m = ds.length - i ∧ i ≤ ds.length ∧ ∃ φ2 h2 acc accV ys, Lat φ1 H1 φ2 H2 ∧ HR X.K φ2 H2 h2 ∧ D ∉ φ2 ∧ H2 D = some (.lst accV) ∧ RepL X.K φ2 H2 acc accV ∧ comp2L g M (unset st (own.map (·.2))) (ds.drop i) h2 = .ok ys hf ∧ acc ++ ys = res,
          ⟨_, rfl, Nat.zero_le _, φ1, h1, [], [], res, Lat.new hD, r1.new hD, nD1, upd_same, .nil, e1, rfl⟩, ?_⟩
        rintro i m H2 ⟨rfl, hi, φ2, h2, acc, accV, ys, l2, r2, nD2, eD, ra, ec, er⟩
        obtain ⟨d1, d2⟩ := dv φ2 H2 h2 l2.wk r2
        by_cases lt : i < ds.length
        · obtain ⟨go, yl⟩ := d1 i ds[i] (List.getElem?_eq_getElem lt)
          refine .inr ⟨go, fun H' => ∃ φ2 h2 acc accV ys, Lat φ1 H1 φ2 H' ∧ HR X.K φ2 H' h2 ∧ D ∉ φ2 ∧ H' D = some (.lst accV) ∧ RepL X.K φ2 H' acc accV ∧ comp2L g M (unset st (own.map (·.2))) (ds.drop (i + 1)) h2 = .ok ys hf ∧ acc ++ ys = res,
            fun H' n => ⟨ds.length - (i + 1), by omega, rfl, lt, n⟩, fun x H3 y => ?_⟩
          obtain ⟨l3, r3, rx⟩ := yl x H3 y
          rw [List.drop_eq_getElem_cons lt] at ec
          simp only [comp2L] at ec
          cases e2 : g ds[i] (unset st (own.map (·.2))) with
          | none => rw [e2] at ec; cases ec
          | some st3 =>
            rw [e2] at ec
            have L3 := l2.trans l3
            have S3 : SR X.K φ2 H3 (unset st (own.map (·.2))) (wipe σ (own.map (·.2))) := (S.mono (l1.trans L3)).unset _
            refine ⟨φ2, _, ds[i], st3, S3, rx, e2, fun τ S4 ch => ⟨by rw [ch.wipe his, wipe_wipe], φ2, st3, h2, S4, r3, ?_⟩⟩
            simp only at ec
            obtain ⟨ysI, h7, eM, ec⟩ := bindN_ok ec
            obtain ⟨zs, h8, eZ, ec⟩ := bindN_ok ec
            cases ec
            subst hM
            obtain ⟨c1, h4, e3, eM⟩ := bindN_ok (show (t st3 h2).bindN _ = _ from eM)
            rw [e3]
            intro φ4 H4 c2 l4 r4 ecc
            cases (show c1 = c2 from ecc)
            have L4 := L3.trans l4
            have eD4 : H4 D = some (.lst accV) := (l3.trans l4).keep D _ eD nD2
            have nD4 : D ∉ φ4 := (l3.trans l4).out eD nD2
            have ra4 := RepL.mono (l3.trans l4).pre (l3.trans l4).per _ _ ra
            cases c1 with
            | false =>
              rw [if_neg Bool.false_ne_true]
              rw [if_neg Bool.false_ne_true] at eM
              cases eM
              exact ⟨φ4, _, acc, accV, zs, L4, r4, nD4, eD4, ra4, eZ, by simpa using er⟩
            | true =>
              rw [if_pos rfl]
              rw [if_pos rfl] at eM
              obtain ⟨ds1, h5, e5, eM⟩ := bindN_ok eM
              refine ⟨φ4, st3, h4, S4.mono l4, r4, ?_⟩
              rw [e5]
              intro φ5 H5 J1 l5 r5 dv1
              have L5 := L4.trans l5
              have eD5 : H5 D = some (.lst accV) := l5.keep D _ eD4 nD4
              have nD5 : D ∉ φ5 := l5.out eD4 nD4
              have ra5 := RepL.mono l5.pre l5.per _ _ ra4
              have S5 : SR X.K φ5 H5 st3 τ := (S4.mono l4).mono l5
              refine ⟨fun j m H6 => m = ds1.length - j ∧ j ≤ ds1.length ∧ ∃ φ6 h6 acc6 accV6 ys6, Lat φ1 H1 φ6 H6 ∧ Wk φ5 H5 φ6 H6 ∧ HR X.K φ6 H6 h6 ∧ D ∉ φ6 ∧ H6 D = some (.lst accV6) ∧ RepL X.K φ6 H6 acc6 accV6 ∧ compL g1 t1 f (unset st3 vs1) (ds1.drop j) h6 = .ok ys6 h7 ∧ acc6 ++ ys6 = acc ++ ysI,
                ⟨_, rfl, Nat.zero_le _, φ5, h5, acc, accV, ysI, L5, Wk.refl _ _, r5, nD5, eD5, ra5, eM, rfl⟩, ?_⟩
              rintro j m H6 ⟨rfl, hj, φ6, h6, acc6, accV6, ys6, L6, w6, r6, nD6, eD6, ra6, ec6, er6⟩
              obtain ⟨d3, d4⟩ := dv1 φ6 H6 h6 w6 r6
              by_cases lt1 : j < ds1.length
              · obtain ⟨go1, yl1⟩ := d3 j ds1[j] (List.getElem?_eq_getElem lt1)
                refine .inr ⟨go1, fun H6 => ∃ φ6 h6 acc6 accV6 ys6, Lat φ1 H1 φ6 H6 ∧ Wk φ5 H5 φ6 H6 ∧ HR X.K φ6 H6 h6 ∧ D ∉ φ6 ∧ H6 D = some (.lst accV6) ∧ RepL X.K φ6 H6 acc6 accV6 ∧ compL g1 t1 f (unset st3 vs1) (ds1.drop (j + 1)) h6 = .ok ys6 h7 ∧ acc6 ++ ys6 = acc ++ ysI,
                  fun H' n => ⟨ds1.length - (j + 1), by omega, rfl, lt1, n⟩, fun x1 H7 y1 => ?_⟩
                obtain ⟨l7, r7, rx1⟩ := yl1 x1 H7 y1
                rw [List.drop_eq_getElem_cons lt1] at ec6
                simp only [compL] at ec6
                cases e7 : g1 ds1[j] (unset st3 vs1) with
                | none => rw [e7] at ec6; cases ec6
                | some st7 =>
                  rw [e7] at ec6
                  simp only at ec6
                  have S7 : SR X.K φ6 H7 (unset st3 vs1) (wipe τ vs1) := (S5.wk (w6.trans l7.wk)).unset _
                  refine ⟨φ6, _, ds1[j], st7, S7, rx1, e7, fun τ1 S8 ch1 => ⟨by rw [ch1.wipe his1, wipe_wipe], φ6, st7, h6, S8, r7, ?_⟩⟩
                  obtain ⟨c3, h9, e9, ec6⟩ := bindN_ok ec6
                  rw [e9]
                  intro φ9 H9 c4 l9 r9 ecc1
                  cases (show c3 = c4 from ecc1)
                  have l79 := l7.trans l9
                  have eD9 : H9 D = some (.lst accV6) := l79.keep D _ eD6 nD6
                  have nD9 : D ∉ φ9 := l79.out eD6 nD6
                  have ra9 := RepL.mono l79.pre l79.per _ _ ra6
                  cases c3 with
                  | false =>
                    rw [if_neg Bool.false_ne_true]
                    rw [if_neg Bool.false_ne_true] at ec6
                    exact ⟨φ9, h9, acc6, accV6, ys6, L6.trans l79, w6.trans l79.wk, r9, nD9, eD9, ra9, ec6, er6⟩
                  | true =>
                    rw [if_pos rfl]
                    rw [if_pos rfl] at ec6
                    obtain ⟨y2, h10, e10, ec6⟩ := bindN_ok ec6
                    obtain ⟨ys7, h11, e11, ec6⟩ := bindN_ok ec6
                    cases ec6
                    refine ⟨φ9, st7, h9, S8.mono l9, r9, ?_⟩
                    rw [e10]
                    intro φa Ha yv la ra' ry
                    have eDa : Ha D = some (.lst accV6) := la.keep D _ eD9 nD9
                    have raa := RepL.mono la.pre la.per _ _ ra9
                    refine ⟨accV6, eDa, ?_, φa, h10, acc6 ++ [y2], accV6 ++ [yv], ys7, Lat.tmp ((L6.trans l79).trans la) hD eDa rfl, ((w6.trans l79.wk).trans la.wk).wr eDa rfl, ra'.out (la.out eD9 nD9) eDa rfl, la.out eD9 nD9, upd_same, ?_, e11, by simp [← er6]⟩
                    · have h1 := congrArg List.length er
                      have h2 := congrArg List.length er6
                      simp at h1 h2
                      rw [← ra6.length, ← line_eq]
                      omega
                    · exact RepL.mono (List.prefix_refl _) (Per.wr eDa rfl) _ _ (raa.append (.cons ry .nil))
              · have ej : j = ds1.length := by omega
                subst ej
                rw [List.drop_length] at ec6
                simp only [compL, Rs.ok.injEq] at ec6
                obtain ⟨rfl, rfl⟩ := ec6
                rw [List.append_nil] at er6
                subst er6
                exact .inl ⟨d4, φ6, _, _, accV6, zs, L6, r6, nD6, eD6, ra6, eZ, by rw [List.append_assoc]; exact er⟩
        · have ei : i = ds.length := by omega
          subst ei
          rw [List.drop_length] at ec
          simp only [comp2L, Rs.ok.injEq] at ec
          obtain ⟨rfl, rfl⟩ := ec
          rw [List.append_nil] at er
          subst er
          exact .inl ⟨d2, P φ2 H2 _ (l1.trans l2) r2 ⟨D, accV, rfl, nD0, nD2, eD, ra⟩⟩
      · exact P.elim
theorem l_comp2 {k : Nat} (c0 : Cs k X) (hi : SI X cl W tg iter it) (ok : BlkOk X.N X.env.scope scope own) (his : ∀ i ∈ is, i ∈ own.map (·.2)) (hv : ∀ i ∈ vs1, i ∈ own.map (·.2)) (his1 : ∀ i ∈ is1, i ∈ vs1)
    (hg : ∀ (s : Shared) (H : Hp) (C : Addr) (cc : List (Str × Addr)) (fp : List Addr), SG (X.blk s H scope (compEnvC scope cc C X.env) fp) tg g is)
    (ht : ∀ (s : Shared) (H : Hp) (C : Addr) (cc : List (Str × Addr)) (fp : List Addr), STs (X.blk s H scope (compEnvC scope cc C X.env) fp) cl W0 ifs t)
    (hi1 : ∀ (s : Shared) (H : Hp) (C : Addr) (cc : List (Str × Addr)) (fp : List Addr), SI (X.blk s H scope (compEnvC scope cc C X.env) fp) cl W0 tg1 iter1 it1)
    (hg1 : ∀ (s : Shared) (H : Hp) (C : Addr) (cc : List (Str × Addr)) (fp : List Addr), SG (X.blk s H scope (compEnvC scope cc C X.env) fp) tg1 g1 is1)
    (ht1 : ∀ (s : Shared) (H : Hp) (C : Addr) (cc : List (Str × Addr)) (fp : List Addr), STs (X.blk s H scope (compEnvC scope cc C X.env) fp) cl W0 ifs1 t1)
    (he : ∀ (s : Shared) (H : Hp) (C : Addr) (cc : List (Str × Addr)) (fp : List Addr), SE (X.blk s H scope (compEnvC scope cc C X.env) fp) cl W0 elt f) (hs : ∀ x, foldedSetIterable iter X.env x = pure x := by intro _; rfl) (hs1 : ∀ env x, foldedSetIterable iter1 env x = pure x := by intro _ _; rfl) :
    SL X cl W (.ListComp elt [⟨tg, iter, ifs, 0⟩, ⟨tg1, iter1, ifs1, 0⟩] scope pos) (lComp2 it g t it1 g1 t1 f (own.map (·.2)) vs1) := PE.of (pe_lc2 c0.calm c0.nd hi ok hv hg ht hi1 hg1 ht1 he hs hs1) fun σ H Q p => comp2_go his his1 p
theorem s_setComp2 {k i : Nat} {y : Str} {py spos : Pos} (c0 : Cs k X) (hy : X.N[i]? = some y) (hyl : X.env.scope.names.lookup y = some .local)
    (hsw : swapsWith (.ListComp elt [⟨tg, iter, ifs, 0⟩, ⟨tg1, iter1, ifs1, 0⟩] scope pos) (some (.Name y py)) spos.line X.env = pure true) (hi : SI X cl W tg iter it) (ok : BlkOk X.N X.env.scope scope own) (his : ∀ i ∈ is, i ∈ own.map (·.2)) (hv : ∀ i ∈ vs1, i ∈ own.map (·.2)) (his1 : ∀ i ∈ is1, i ∈ vs1)
    (hg : ∀ (s : Shared) (H : Hp) (C : Addr) (cc : List (Str × Addr)) (fp : List Addr), SG (X.blk s H scope (compEnvC scope cc C X.env) fp) tg g is)
    (ht : ∀ (s : Shared) (H : Hp) (C : Addr) (cc : List (Str × Addr)) (fp : List Addr), STs (X.blk s H scope (compEnvC scope cc C X.env) fp) cl W0 ifs t)
    (hi1 : ∀ (s : Shared) (H : Hp) (C : Addr) (cc : List (Str × Addr)) (fp : List Addr), SI (X.blk s H scope (compEnvC scope cc C X.env) fp) cl W0 tg1 iter1 it1)
    (hg1 : ∀ (s : Shared) (H : Hp) (C : Addr) (cc : List (Str × Addr)) (fp : List Addr), SG (X.blk s H scope (compEnvC scope cc C X.env) fp) tg1 g1 is1)
    (ht1 : ∀ (s : Shared) (H : Hp) (C : Addr) (cc : List (Str × Addr)) (fp : List Addr), STs (X.blk s H scope (compEnvC scope cc C X.env) fp) cl W0 ifs1 t1)
    (he : ∀ (s : Shared) (H : Hp) (C : Addr) (cc : List (Str × Addr)) (fp : List Addr), SE (X.blk s H scope (compEnvC scope cc C X.env) fp) cl W0 elt f) (hs : ∀ x, foldedSetIterable iter X.env x = pure x := by intro _; rfl) (hs1 : ∀ env x, foldedSetIterable iter1 env x = pure x := by intro _ _; rfl) :
    SS X cl W (.Assign [.Name y py] (.ListComp elt [⟨tg, iter, ifs, 0⟩, ⟨tg1, iter1, ifs1, 0⟩] scope pos) spos) (sAsg (gN i) (eFrz (lComp2 it g t it1 g1 t1 f (own.map (·.2)) vs1))) := by
  refine ⟨fun pins s σ H D I p => ?_⟩
  have q := (ps_setLc2 (g := tGv X.K g is) (tt := tG X.K cl W0 RBool t) (g1 := tGv X.K g1 is1) (tt1 := tG X.K cl W0 RBool t1) (wi1 := tI X.K cl W0 it1) (te := tG X.K cl W0 (RR X.K) f) c0.calm c0.nd hy hyl hsw hi ok hv hg ht hi1 hg1 ht1 he hs hs1).run pins s σ H { D with nx := fun τ H1 => ∃ a vs, τ = σ.set i (some (.ref a)) ∧ H1 a = some (.lst vs) ∧ ∀ o, D.nx τ (upd H1 a (.frz o (.lst vs))) } I (by
    refine comp2_go (W := W) (cl := cl) (t := t) (f := f) his his1 ?_
    obtain ⟨φ, st, h0, S, R0, P⟩ := p
    refine ⟨φ, st, h0, S, R0, ?_⟩
    simp only [sAsg, eFrz] at P
    cases e : lComp2 it g t it1 g1 t1 f (own.map (·.2)) vs1 st h0 with
    | bad => simp only [e, Rs.bind, Rs.out] at P; exact P
    | ex ex1 h1 =>
      simp only [e, Rs.bind, Rs.out] at P
      exact fun φ' H' c d l r er => P φ' H' c d σ l r (S.mono l) er
    | ok ds h1 =>
      simp only [e, Rs.bind, gN, Rs.out, outO] at P
      rintro φ' H' v l r ⟨a, vs, rfl, n0, nn, ea, rr⟩
      refine ⟨a, vs, rfl, ea, fun o => ?_⟩
      obtain ⟨l2, x2, y2⟩ := Fresh.frz (o := o) l n0 r nn ea rr
      exact P φ' _ _ l2 x2 ((S.mono l2).set i y2))
  refine thn q fun fl s1 h1 => ?_
  cases fl with
  | next =>
    obtain ⟨σ', H', I', a, vs, rfl, e1, e2⟩ := h1
    obtain ⟨o, I2⟩ := inv_frz I' e1
    exact ⟨_, _, I2, e2 o⟩
  | brk => exact h1
  | cont => exact h1
  | ret u => exact h1
end
end Y
end

section
set_option Elab.async false
set_option linter.all false
set_option maxRecDepth 100000
set_option maxHeartbeats 2000000
/-! YX: o.pop(i), o a list of one's own, as an expression. -/
namespace Y
open PySem PySem.Spec PyProof.Rows L2
def popD (h : Hm) : D → D → Option (D × Hm)
  | .loc p, .int i => match h[p]? with
    | some (.lst xs) => if 0 ≤ i ∧ i < 16777216 then (match xs[i.toNat]? with
      | some y => some (y, h.set p (.lst (xs.eraseIdx i.toNat)))
      | none => none) else none
    | _ => none
  | _, _ => none
def ePop (f g : Ev) : Ev := fun σ h => (f σ h).bind fun o h1 => if isLst h1 o = true then (g σ h1).bind fun i h2 => match popD h2 o i with
  | some (y, h3) => .ok y h3
  | none => .bad else .bad
theorem RepL.eraseIdx {K : PySem.W.Frag} {φ : List Addr} {H : Hp} : ∀ {ds : List D} {vs : List V} (i : Nat), RepL K φ H ds vs → RepL K φ H (ds.eraseIdx i) (vs.eraseIdx i)
  | [], _, _, r => by cases r; exact .nil
  | d :: ds, _, 0, r => by cases r with | cons _ q => exact q
  | d :: ds, _, i + 1, r => by cases r with | cons h q => exact .cons h (RepL.eraseIdx i q)
section
variable {X : Cx} {cl : Nat → Addr} {W : WX} {o e : Expr} {f g : Ev}
theorem s_pop {p1 p2 : Pos} (ho : SE X cl W o f) (he : SE X cl W e g) (hpe : ∀ {to : TE} {t : TA}, PE X o to → PA X [e] t → PE X (.Call (.Attribute o "pop" p1) [e] [] p2) (tBM X.K "list" rPopAt to t))
    (hs1 : starEach [e] X.env = (false, eval e X.env) :: starEach [] X.env := by rfl) :
    SE X cl W (.Call (.Attribute o "pop" p1) [e] [] p2) (ePop f g) := PE.of (hpe ho (pa_cons he pa_nil hs1)) fun σ H Q p => by
  obtain ⟨φ, st, h0, S, R0, P⟩ := p
  refine ⟨φ, st, h0, S, R0, P.seq fun x h1 φ1 H1 v l R r P => ?_⟩
  split at P
  · rename_i hl
    cases r <;> simp only [isLst] at hl <;> try (cases hl; done)
    rename_i n ad hk
    obtain ⟨ob, h3, h4⟩ := R.at hk
    refine ⟨?_, φ1, st, h1, S.mono l, R, P.seq fun y h2 φ3 H3 u l3 R3 r3 P => ?_⟩
    · rw [h3] at hl
      cases h4 with
      | lst hh _ => exact .inl ⟨rfl, _, .of hh⟩
      | dct hh _ => simp at hl
      | dtu hh _ => simp at hl
    · cases e3 : popD h2 (.loc n) y with
      | none => rw [e3] at P; exact P.elim
      | some z =>
        obtain ⟨y2, h5⟩ := z
        rw [e3] at P
        simp only at P
        have hk4 := pre_get l3.pre hk
        obtain ⟨ob2, h6, h7⟩ := R3.at hk4
        unfold popD at e3
        split at e3
        · rename_i p' i ep
          cases ep
          simp only [h6] at e3
          split at e3
          · rename_i xs e9
            cases e9
            split at e3
            · rename_i hi
              split at e3
              · rename_i y3 e10
                cases e3
                cases r3
                cases h7 with
                | lst hh rr =>
                  rename_i vs
                  have mem : ad ∈ φ3 := List.mem_of_getElem? hk4
                  obtain ⟨w3, q1, q2⟩ := rr.get e10
                  have hlt := (List.getElem?_eq_some_iff.mp e10).1
                  have hlv : vs.length = xs.length := rr.length.symm
                  refine ⟨ad, vs, i, i.toNat, w3, rfl, rfl, hh, by omega, by omega, seqIndex_of hi.1 (by rw [hlv]; omega), q1, ?_⟩
                  refine P φ3 _ _ (Lat.wr hh rfl mem) (R3.wr hk4 (.lst upd_same ?_)) ?_
                  · exact RepL.mono (List.prefix_refl _) (Per.wr hh rfl) _ _ (rr.eraseIdx _)
                  · exact Rep.mono (List.prefix_refl _) (Per.wr hh rfl) _ _ q2
              · cases e3
            · cases e3
          · cases e3
        · cases e3
  · exact P.elim
end
end Y
end

section
set_option Elab.async false
set_option linter.all false
set_option maxRecDepth 100000
set_option maxHeartbeats 2000000
/-! YZ: {k: v for ..}, keys ints and texts. -/
namespace Y
open PySem PySem.Spec PyProof.Rows L2
def dcL (g : Gv) (c : Tv) (k v : Ev) (σ : Sl) : List D → List (Key × D) → Hm → Rs (List (Key × D))
  | [], a, h => .ok a h
  | d :: ds, a, h => match g d σ with
    | none => .bad
    | some σ1 => (c σ1 h).bindN fun t h1 => if t = true then (k σ1 h1).bindN fun y h2 => (v σ1 h2).bindN fun z h3 => match keyOf y with
      | some ky => if a.length < line then dcL g c k v σ ds (setK a ky z) h3 else .bad
      | none => .bad else dcL g c k v σ ds a h1
def eDc (it : Iv) (g : Gv) (c : Tv) (k v : Ev) (vs : List Nat) : Ev := fun σ h => (it σ h).bind fun ds h1 => (dcL g c k v (unset σ vs) ds [] h1).bind fun a h2 => .ok (.loc h2.length) (h2 ++ [.dct a])
theorem dcL_ne {g : Gv} {t : Tv} {k v : Ev} {σ : Sl} : ∀ {ds : List D} {a : List (Key × D)} {h : Hm} {x : Exn} {h2 : Hm}, dcL g t k v σ ds a h ≠ .ex x h2
  | [], a, h, x, h2, q => by simp [dcL] at q
  | d :: ds, a, h, x, h2, q => by
    simp only [dcL] at q
    split at q
    · cases q
    · obtain ⟨c, h3, _, q⟩ := bindN_ex q
      split at q
      · obtain ⟨y, h4, _, q⟩ := bindN_ex q
        obtain ⟨z, h5, _, q⟩ := bindN_ex q
        split at q
        · split at q
          · exact dcL_ne q
          · cases q
        · cases q
      · exact dcL_ne q
section
variable {X : Cx} {cl : Nat → Addr} {W : WX} {kx vx tg iter : Expr} {ifs : List Expr} {it : Iv} {g : Gv} {is : List Nat} {t : Tv} {fk fv : Ev} {scope : Scope} {own : List (Str × Nat)} {pos : Pos}
theorem dc_go (his : ∀ i ∈ is, i ∈ own.map (·.2)) {σ : L2.St} {H : Hp} {Q : VK} (p : tG X.K cl W (RR X.K) (eDc it g t fk fv (own.map (·.2))) σ H Q) :
    tDc (tI X.K cl W it) (tGv X.K g is) (tG X.K cl W0 RBool t) (tG X.K cl W0 (RR X.K) fk) (tG X.K cl W0 (RR X.K) fv) (own.map (·.2)) σ H Q := by
  obtain ⟨φ, st, h0, S, R0, P⟩ := p
  refine ⟨φ, st, h0, S, R0, ?_⟩
  unfold eDc at P
  cases e : it st h0 with
  | bad => simp only [e, Rs.bind] at P; exact P
  | ex ex1 h1 => simp only [e, Rs.bind] at P; exact P
  | ok ds h1 =>
    simp only [e, Rs.bind] at P
    intro φ1 H1 J l1 r1 dv D hD
    cases e1 : dcL g t fk fv (unset st (own.map (·.2))) ds [] h1 with
    | bad => rw [e1] at P; exact P.elim
    | ex ex1 h2 => exact (dcL_ne e1).elim
    | ok res hf =>
      rw [e1] at P
      simp only at P
      have nD1 : D ∉ φ1 := r1.notin hD
      have nD0 : H D = none := l1.gone nD1 hD
      refine ⟨fun i m H2 => m = ds.length - i ∧ i ≤ ds.length ∧ ∃ φ2 h2 acc accV, Lat φ1 H1 φ2 H2 ∧ HR X.K φ2 H2 h2 ∧ D ∉ φ2 ∧ H2 D = some (.dK accV) ∧ RepK X.K φ2 H2 acc accV ∧ dcL g t fk fv (unset st (own.map (·.2))) (ds.drop i) acc h2 = .ok res hf,
        ⟨_, rfl, Nat.zero_le _, φ1, h1, [], [], Lat.new hD, r1.new hD, nD1, upd_same, .nil, e1⟩, ?_⟩
      rintro i m H2 ⟨rfl, hi, φ2, h2, acc, accV, l2, r2, nD2, eD, ra, ec⟩
      obtain ⟨d1, d2⟩ := dv φ2 H2 h2 l2.wk r2
      by_cases lt : i < ds.length
      · obtain ⟨go, yl⟩ := d1 i ds[i] (List.getElem?_eq_getElem lt)
        refine .inr ⟨go, fun H' => ∃ φ2 h2 acc accV, Lat φ1 H1 φ2 H' ∧ HR X.K φ2 H' h2 ∧ D ∉ φ2 ∧ H' D = some (.dK accV) ∧ RepK X.K φ2 H' acc accV ∧ dcL g t fk fv (unset st (own.map (·.2))) (ds.drop (i + 1)) acc h2 = .ok res hf,
          fun H' n => ⟨ds.length - (i + 1), by omega, rfl, lt, n⟩, fun x H3 y => ?_⟩
        obtain ⟨l3, r3, rx⟩ := yl x H3 y
        rw [List.drop_eq_getElem_cons lt] at ec
        simp only [dcL] at ec
        cases e2 : g ds[i] (unset st (own.map (·.2))) with
        | none => rw [e2] at ec; cases ec
        | some st3 =>
          rw [e2] at ec
          have L3 := l2.trans l3
          have S3 : SR X.K φ2 H3 (unset st (own.map (·.2))) (wipe σ (own.map (·.2))) := (S.mono (l1.trans L3)).unset _
          refine ⟨φ2, _, ds[i], st3, S3, rx, e2, fun τ S4 ch => ⟨by rw [ch.wipe his, wipe_wipe], φ2, st3, h2, S4, r3, ?_⟩⟩
          simp only at ec
          obtain ⟨c1, h4, e3, ec⟩ := bindN_ok ec
          rw [e3]
          intro φ4 H4 c2 l4 r4 ecc
          cases (show c1 = c2 from ecc)
          have l34 := l3.trans l4
          have eD4 : H4 D = some (.dK accV) := l34.keep D _ eD nD2
          have nD4 : D ∉ φ4 := l34.out eD nD2
          have ra4 := ra.mono l34.pre l34.per
          cases c1 with
          | false =>
            rw [if_neg Bool.false_ne_true]
            rw [if_neg Bool.false_ne_true] at ec
            exact ⟨φ4, h4, acc, accV, L3.trans l4, r4, nD4, eD4, ra4, ec⟩
          | true =>
            rw [if_pos rfl]
            rw [if_pos rfl] at ec
            obtain ⟨y1, h5, e5, ec⟩ := bindN_ok ec
            obtain ⟨z1, h6, e6, ec⟩ := bindN_ok ec
            refine ⟨φ4, st3, h4, S4.mono l4, r4, ?_⟩
            rw [e5]
            intro φ5 H5 yv l5 r5 ry
            refine ⟨φ5, st3, h5, (S4.mono l4).mono l5, r5, ?_⟩
            rw [e6]
            intro φ6 H6 zv l6 r6 rz
            have l56 := l5.trans l6
            have eD6 : H6 D = some (.dK accV) := l56.keep D _ eD4 nD4
            have nD6 : D ∉ φ6 := l56.out eD4 nD4
            have ra6 := ra4.mono l56.pre l56.per
            split at ec
            · rename_i ky ek
              split at ec
              · rename_i hl
                obtain rfl := key_of_rep ry ek
                refine ⟨accV, ky, rfl, eD6, by rw [← Paired.length ra6, ← line_eq]; exact hl, φ6, h6, _, _, Lat.tmp ((L3.trans l4).trans l56) hD eD6 rfl, r6.out nD6 eD6 rfl, nD6, upd_same, ?_, ec⟩
                exact (ra6.set ky rz).mono (List.prefix_refl _) (Per.wr eD6 rfl)
              · cases ec
            · cases ec
      · have ei : i = ds.length := by omega
        subst ei
        rw [List.drop_length] at ec
        simp only [dcL, Rs.ok.injEq] at ec
        obtain ⟨rfl, rfl⟩ := ec
        have L := l1.trans l2
        refine .inl ⟨d2, P (φ2 ++ [D]) _ _ ⟨L.pre.trans (List.prefix_append _ _), L.per, L.keep, fun b m => ?_⟩ (r2.add nD2 (.dct eD (ra.mono (List.prefix_append _ _) (Per.refl _)))) (.loc ?_)⟩
        · rcases List.mem_append.mp m with m | m
          · exact L.fresh b m
          · simp at m
            subst m
            exact .inr nD0
        · rw [List.getElem?_append_right (by rw [r2.len]; exact Nat.le_refl _)]
          simp [r2.len]
theorem s_dc {k : Nat} (c0 : Cs k X) (hi : SI X cl W tg iter it) (ok : BlkOk X.N X.env.scope scope own) (his : ∀ i ∈ is, i ∈ own.map (·.2))
    (hg : ∀ (s : Shared) (H : Hp) (C : Addr) (cc : List (Str × Addr)) (fp : List Addr), SG (X.blk s H scope (compEnvC scope cc C X.env) fp) tg g is)
    (ht : ∀ (s : Shared) (H : Hp) (C : Addr) (cc : List (Str × Addr)) (fp : List Addr), STs (X.blk s H scope (compEnvC scope cc C X.env) fp) cl W0 ifs t)
    (hk : ∀ (s : Shared) (H : Hp) (C : Addr) (cc : List (Str × Addr)) (fp : List Addr), SE (X.blk s H scope (compEnvC scope cc C X.env) fp) cl W0 kx fk)
    (he : ∀ (s : Shared) (H : Hp) (C : Addr) (cc : List (Str × Addr)) (fp : List Addr), SE (X.blk s H scope (compEnvC scope cc C X.env) fp) cl W0 vx fv) (hs : ∀ x, foldedSetIterable iter X.env x = pure x := by intro _; rfl) :
    SE X cl W (.DictComp kx vx [⟨tg, iter, ifs, 0⟩] scope pos) (eDc it g t fk fv (own.map (·.2))) := PE.of (pe_dc c0.calm c0.nd hi ok hg ht hk he hs) fun σ H Q p => dc_go his p
end
end Y
end

section
set_option Elab.async false
set_option linter.all false
set_option maxRecDepth 100000
set_option maxHeartbeats 2000000
/-! YMk: an own class is made: run_make over FnG. -/
namespace Y
open PySem PySem.Spec PyProof.Rows L2
section
variable {X : Cx} {k : Nat} {f C : Addr} {fd : FuncData} {ps : List Str} {E : XK}
theorem run_makeG {W : WX} {sp : Sp} {pins : List (Addr × Obj)} {σ : L2.St} {H : Hp} {s : Shared} {Q : VK} {us : List Value} {vs : List V} (M : Mk X.K C f) (F : FnG X.prog X.w X.K X.mg X.base k f fd ps sp) (c : Cs (k + 1) X) (tk : Takes X W) (hb : Binds X.K fd ps [])
    (I : Inv X pins σ H s) (r : Vals vs us)
    (h : ∀ x dx, H x = none → H dx = none → dx ≠ x → sp (.ref x :: vs) (upd (upd H dx (.own x)) x (.ins C dx [])) (fun v H2 => v = .non ∧ Q (.ref x) H2) fun c d H' => W c d σ H') :
    wpAny (model X.prog X.w) X.A (call (.ref C) us) (EP X pins σ Q) X.xe s := by
  have hq := h (s.heap.objs.size + 1) s.heap.objs.size (I.hok.fresh (Nat.le_succ _)) (I.hok.fresh (Nat.le_refl _)) (Nat.ne_of_lt (Nat.lt_succ_self _))
  have I2 := Inv.made (C := C) I
  have r2 : Vals (V.ref (s.heap.objs.size + 1) :: vs) (Value.ref (s.heap.objs.size + 1) :: us) := .cons rfl r
  have hl : (Value.ref (s.heap.objs.size + 1) :: us).length = ps.length := by
    rw [← r2.length]; exact F.len _ _ _ _ hq
  have b := hb _ (Value.ref (s.heap.objs.size + 1) :: us) I2.kIn (by rw [List.append_nil]; exact hl)
  rw [List.append_nil] at b
  refine wpAny_call (make_map (f := f) I.kIn M.makes M.init (beq_iff_eq.mp M.fn) (codeAny_mono (F.run _ X.stack _ _ ⟨Value.ref (s.heap.objs.size + 1) :: us, []⟩ _ _ _ _ (c.room.make C us []) c.gd
    (I2.env0.make C us []) b r2 hq) fun r s' hq' => ?_))
  cases r with
  | error e => exact passAt tk σ pins _ _ e s' I2 hq'
  | ok fl =>
    cases fl with
    | ret u =>
      obtain ⟨v, H', I3, rv, ev, q3⟩ := I2.after hq'
      subst ev
      exact ⟨rv, ⟨V.ref (s.heap.objs.size + 1), H', I3, rfl, q3⟩⟩
    | next => exact False.elim hq'
    | brk => exact False.elim hq'
    | cont => exact False.elim hq'
theorem pe_makeG {W : WX} {sp : Sp} {x : Str} {p pos : Pos} {e : Expr} {es : List Expr} {t : TA} (M : Mk X.K C f) (F : FnG X.prog X.w X.K X.mg X.base k f fd ps sp) (c : Cs (k + 1) X) (tk : Takes X W) (hb : Binds X.K fd ps []) (hg : Gl X x) (hm : X.mg x = some (.ref C))
    (ha : PA X (e :: es) t) (hdb : (x == ("__debug__" : Str)) = false := by decide) (he : starEach (e :: es) X.env = (false, eval e X.env) :: starEach es X.env := by rfl) (hpl : (backTo pos (starEach es X.env)).any (·.1) = false := by rfl) :
    PE X (.Call (.Name x p) (e :: es) [] pos) (fun σ H Q => t σ H fun vs H1 => ∀ x dx, H1 x = none → H1 dx = none → dx ≠ x → sp (.ref x :: vs) (upd (upd H1 dx (.own x)) x (.ins C dx [])) (fun v H2 => v = .non ∧ Q (.ref x) H2) fun c d H' => W c d σ H') := by
  refine ⟨fun pins s σ H Q I h => ?_⟩
  refine wpAny_Call_Name_kw (ld_glob I hg hm ?_ hdb)
  exact PySem.W.callWith_K (h₀ := X.base) I.ok.mod.kin M.kp (thn (ha.run pos pins s σ H _ I h) fun us s1 ⟨vs, H1, I1, r, q⟩ => ⟨I1.kIn, run_makeG M F c tk hb I1 r q⟩) he hpl
end
end Y
end

section
set_option Elab.async false
set_option linter.all false
set_option maxRecDepth 100000
set_option maxHeartbeats 2000000
/-! YMi: __init__ of an own class, and what makes its objects. -/
namespace Y
open PySem PySem.Spec PyProof.Rows L2

/-- if t: raise ..; then the fields -/
def bIf (t : Tv) (r : Sv) (fa : Av) : Av := fun σ h => (t σ h).bind fun b h1 => if b = true then (match r σ h1 with | .ex e _ h2 => .ex e h2 | _ => .bad) else fa σ h1
/-- the object that __init__ gives -/
def mkO (fa : Av) (c : Str) (ns : List Str) (n : Nat) : Fn := fun ds h => match fa (none :: startD (n - 1) ds) h with
  | .ok xs h' => finP h (.obj c ns xs) h'
  | .ex e h' => .ex e h'
  | .bad => .bad
section
variable {K : PySem.W.Frag} {φ φ' : List Addr} {H H' : Hp} {st : Sl} {σ : L2.St}
/-- what comes behind the fields pre -/
def tFs (K : PySem.W.Frag) (cl : Nat → Addr) (W : WX) (C : Addr) (pre fs : List Str) (fa : Av) : TS := fun D σ H => ∃ x dx fs0 φ0 H0 φ st h, σ[0]? = some (some (.ref x)) ∧ H0 x = none ∧ Lat φ0 H0 φ H ∧ x ∉ φ ∧ H x = some (.ins C dx fs0) ∧
  fs0.map (·.1) = pre ∧ SR K φ H st σ ∧ HR K φ H h ∧ match fa st h with
  | .ok xs h' => ∀ φ' H' vs, Wk φ H φ' H' → Lat φ0 H0 φ' H' → HR K φ' H' h' → RepL K φ' H' xs vs → vs.length = fs.length → H' x = some (.ins C dx (fs0 ++ fs.zip vs)) → D.nx σ H'
  | .ex e h' => ∀ φ' H' c d, Lat φ0 H0 φ' H' → HR K φ' H' h' → ER K cl φ' H' e c d → W c d σ H'
  | .bad => False
theorem putF_new {f : Str} {v : V} : ∀ {fs : List (Str × V)}, f ∉ fs.map (·.1) → putF f v fs = fs ++ [(f, v)]
  | [], _ => rfl
  | (g, x) :: r, h => by
    simp only [List.map_cons, List.mem_cons, not_or] at h
    have e : ¬ g = f := fun z => h.1 z.symm
    show (if g = f then (g, v) :: r else (g, x) :: putF f v r) = _
    rw [if_neg e, putF_new h.2]
    rfl
end
section
variable {X : Cx} {cl : Nat → Addr} {W : WX} {C : Addr} {pre fs : List Str} {fa : Av} {fv : Ev} {f me : Str} {p p2 pos : Pos} {e c : Expr} {rest body : List Stmt} {t : Tv} {r : Sv}
theorem fs_nil : PSs X [] (tFs X.K cl W C pre [] aN) := PSs.of pss_nil fun D σ H ⟨x, dx, fs0, φ0, H0, φ, st, h, e0, n0, l, nx, ex, hp, S, R, P⟩ => P φ H [] (Wk.refl _ _) l R .nil rfl (by simpa using ex)
theorem fs_cons (T : Cls X.K C) (no : NoAttr X.K C f) (hN : X.N[0]? = some me) (hv : SE X cl W e fv) (hr : PSs X rest (tFs X.K cl W C (pre ++ [f]) fs fa))
    (h1 : fullN pre = false) (h2 : f ∉ pre) (h3 : pre.length < 1000) (hvi : Vis X.env.scope me := by first | exact Or.inl rfl | exact Or.inr (Or.inl rfl) | exact Or.inr (Or.inr rfl)) (hd : (me == ("__debug__" : Str)) = false := by decide)
    (hcd : (me == ("__classdict__" : Str)) = false := by decide) (hs : swapsWith e (some (.Attribute (.Name me p) f p2)) pos.line X.env = pure false := by rfl) :
    PSs X (.Assign [.Attribute (.Name me p) f p2] e pos :: rest) (tFs X.K cl W C pre (f :: fs) (aC fv fa)) := PSs.of (pss_cons (ps_fld (pe_var hN hvi hd hcd) hv hs) hr) fun D σ H ⟨x, dx, fs0, φ0, H0, φ, st, h, e0, n0, l, nx, ex, hp, S, R, P⟩ => by
  refine ⟨φ, st, h, S, R, ?_⟩
  simp only [aC] at P
  cases e1 : fv st h with
  | bad => simp only [e1, Rs.bind] at P
  | ex x1 h1 =>
    simp only [e1, Rs.bind] at P
    exact fun φ' H' c d l2 r er => P φ' H' c d (l.trans l2) r er
  | ok y h1' =>
    simp only [e1, Rs.bind] at P
    intro φ1 H1 v l1 r1 q1
    have ex1 := l1.keep x _ ex nx
    have nx1 := l1.out ex nx
    have mu : mutO (.ins C dx fs0) = true := by simp [mutO, hp, h1]
    refine ⟨.ref x, e0, x, C, dx, fs0, rfl, ex1, T, no, by have := congrArg List.length hp; simp at this; omega, ?_⟩
    rw [putF_new (by rw [hp]; exact h2)]
    have per : Per H1 (upd H1 x (.ins C dx (fs0 ++ [(f, v)]))) := Per.wr ex1 mu
    have w1 : Wk φ1 H1 φ1 (upd H1 x (.ins C dx (fs0 ++ [(f, v)]))) := ⟨List.prefix_refl _, per⟩
    refine ⟨x, dx, fs0 ++ [(f, v)], φ0, H0, φ1, st, h1', e0, n0, Lat.tmp (l.trans l1) n0 ex1 mu, nx1, upd_same, by simp [hp], (S.mono l1).wk w1, r1.out nx1 ex1 mu, ?_⟩
    cases e2 : fa st h1' with
    | bad => simp only [e2, Rs.bind] at P
    | ex x1 h2 => simp only [e2, Rs.bind] at P; exact P
    | ok xs h2 =>
      simp only [e2, Rs.bind] at P
      intro φ' H' vs w l' r' rl hl hx
      have w2 := w1.trans w
      exact P φ' H' (v :: vs) (l1.wk.trans w2) l' r' (.cons (Rep.mono w2.pre w2.per _ _ q1) rl) (by simp [hl]) (by rw [hx, List.append_assoc]; rfl)
theorem fs_if (hc : ST X cl W c t) (ha : SSs X cl W body r) (hr : PSs X rest (tFs X.K cl W C pre fs fa)) (hW : ∀ c d σ τ H, W c d σ H → W c d τ H) :
    PSs X (.If c body [] pos :: rest) (tFs X.K cl W C pre fs (bIf t r fa)) := PSs.of (pss_cons (ps_if hc ha pss_nil) hr) fun D σ H ⟨x, dx, fs0, φ0, H0, φ, st, h, e0, n0, l, nx, ex, hp, S, R, P⟩ => by
  refine ⟨φ, st, h, S, R, ?_⟩
  simp only [bIf] at P
  cases e1 : t st h with
  | bad => simp only [e1, Rs.bind] at P
  | ex x1 h1 =>
    simp only [e1, Rs.bind] at P
    exact fun φ' H' c d l2 r er => P φ' H' c d (l.trans l2) r er
  | ok b h1 =>
    simp only [e1, Rs.bind] at P
    intro φ1 H1 b' l1 r1 eb
    cases (show b = b' from eb)
    cases b with
    | true =>
      simp only [if_true] at P ⊢
      refine ⟨φ1, st, h1, S.mono l1, r1, ?_⟩
      cases e2 : r st h1 with
      | ex x1 τ h2 =>
        simp only [e2] at P
        exact fun φ' H' c d τ l2 r2 s2 er => hW _ _ _ _ _ (P φ' H' c d (l.trans (l1.trans l2)) r2 er)
      | _ => simp only [e2] at P
    | false =>
      simp only [Bool.false_eq_true, if_false] at P ⊢
      refine ⟨x, dx, fs0, φ0, H0, φ1, st, h1, e0, n0, l.trans l1, l1.out ex nx, l1.keep x _ ex nx, hp, S.mono l1, r1, ?_⟩
      cases e2 : fa st h1 with
      | bad => simp only [e2] at P
      | ex x1 h2 => simp only [e2] at P; exact P
      | ok xs h2 =>
        simp only [e2] at P
        exact fun φ' H' vs w => P φ' H' vs (l1.wk.trans w)
end
/-- what __init__ does -/
def spO (K : PySem.W.Frag) (cl : Nat → Addr) (C : Addr) (n : Nat) (d : Fn) : Sp := fun vs H Q E => ∃ x dx H0 φ ds h ws, vs = .ref x :: ws ∧ H0 x = none ∧ H0 dx = none ∧ dx ≠ x ∧ H = upd (upd H0 dx (.own x)) x (.ins C dx []) ∧ ds.length = n ∧
  RepL K φ H0 ds ws ∧ HR K φ H0 h ∧ Post K cl φ H0 (RR K) (d ds h) (fun v H' => v = .ref x → Q .non H') E
theorem start_none {K : PySem.W.Frag} {φ : List Addr} {H : Hp} {N : List Str} {ds : List D} {vs : List V} {v : V} (hN : N ≠ []) (r : RepL K φ H ds vs) : SR K φ H (none :: startD (N.length - 1) ds) (start N (v :: vs)) := by
  have hl : 0 < N.length := List.length_pos_iff.mpr hN
  refine ⟨by simp [startD, L2.start, r.length]; omega, fun i d e => ?_⟩
  cases i with
  | zero => simp at e
  | succ i =>
    rw [List.getElem?_cons_succ] at e
    obtain ⟨v, h1, h2⟩ := r.get (startD_at e)
    refine ⟨v, ?_, h2⟩
    unfold L2.start
    rw [List.getElem?_append_left (by have := (List.getElem?_eq_some_iff.mp h1).1; simpa using this), List.map_cons, List.getElem?_cons_succ, List.getElem?_map, h1]
    rfl
theorem zip_keys {α β : Type} : ∀ {a : List α} {b : List β}, b.length = a.length → (a.zip b).map (·.1) = a ∧ (a.zip b).map (·.2) = b
  | [], [], _ => ⟨rfl, rfl⟩
  | [], _ :: _, h => by simp at h
  | _ :: _, [], h => by simp at h
  | x :: a, y :: b, h => by
    have h' : b.length = a.length := by simpa using h
    obtain ⟨h1, h2⟩ := zip_keys h'
    simp [h1, h2]
section
variable {P : Program} {w : World} {K : PySem.W.Frag} {mg : Str → Option Value} {base : Heap} {cl : Nat → Addr}
theorem fn_O {x qual c : Str} {st : Stmt} {f C : Addr} {fd : FuncData} {N ps ns : List Str} {k : Nat} {fa : Av} (F : Fun K x qual st f fd) (S : FnScope N ps (defScope st)) (hns : PySem.W.nsIn K mainGlobals c = some (some (.ref C))) (hf : fullN ns = true) (hN : N ≠ []) (hps : ps ≠ [])
    (hb : ∀ X : Cx, X.prog = P → X.w = w → X.K = K → X.mg = mg → X.base = base → X.N = N → X.env.scope = defScope st → X.stack = X.env :: X.outer → X.env.frame = some X.env.locals → X.fn = (fun _ => true) → ∀ E : XK, Cs k X → Takes X (wOf E) → PassesOwn (model X.prog X.w) X.A X.env X.xe → PSs X (defBody st) (tFs X.K cl (wOf E) C [] ns fa)) :
    FnG P w K mg base (k + 1) f fd ps (spO K cl C (ps.length - 1) (mkO fa c ns N.length)) := by
  have hpl : 0 < ps.length := List.length_pos_iff.mpr hps
  refine gn_of F S (fun vs H Q E ⟨x, dx, H0, φ, ds, h, ws, e, _, _, _, _, el, r, _⟩ => by rw [e, List.length_cons, ← r.length, el]; omega) fun cdv A outer s H vs Q E c ⟨x, dx, H0, φ, ds, h, ws, e, n0, nd, ne, eH, el, r, R, p⟩ => ?_
  subst e eH
  have nx : x ∉ φ := R.notin n0
  have n1 : upd H0 dx (.own x) x = none := by rw [upd_ne (Ne.symm ne)]; exact n0
  have L : Lat φ H0 φ (upd (upd H0 dx (.own x)) x (.ins C dx [])) := (Lat.new nd).trans (Lat.new n1)
  have r2 := RepL.mono L.pre L.per _ _ r
  refine ⟨_, hb _ rfl rfl rfl rfl rfl rfl rfl rfl rfl rfl E c (takes_of rfl rfl rfl rfl) (passes_of rfl), x, dx, [], φ, H0, φ, none :: startD (N.length - 1) ds, h, rfl, n0, L, nx, upd_same, rfl, start_none hN r2, (R.new nd).new n1, ?_⟩
  simp only [mkO] at p
  cases e : fa (none :: startD (N.length - 1) ds) h with
  | bad => simp only [e] at p; exact p
  | ex e1 h' => simp only [e] at p; exact p
  | ok xs h' =>
    simp only [e] at p
    intro φ' H' vs _ l' r' rl hl hx
    obtain ⟨z1, z2⟩ := zip_keys hl
    exact fin_sound R p φ' H' (.ref x) l' r' (.obj hns hx (by rw [List.nil_append, z1]) (by rw [List.nil_append, z2]) rl (by rw [List.nil_append, z1]; exact hf)) rfl
end
section
variable {X : Cx} {cl : Nat → Addr} {W : WX} {e : Expr} {es : List Expr} {fa : Av} {pos p : Pos} {k n : Nat} {x : Str} {f C : Addr} {fd : FuncData} {ps : List Str} {d : Fn}
theorem s_mk (M : Mk X.K C f) (F : FnG X.prog X.w X.K X.mg X.base k f fd ps (spO X.K cl C n d)) (c : Cs (k + 1) X) (tk : Takes X W) (hg : Gl X x) (hm : X.mg x = some (.ref C)) (hb : Binds X.K fd ps []) (hn : (e :: es).length = n)
    (hal : ∀ σ h xs h', fa σ h = .ok xs h' → xs.length = (e :: es).length) (ha : SA X cl W (e :: es) fa) (hdb : (x == ("__debug__" : Str)) = false := by decide)
    (he : starEach (e :: es) X.env = (false, eval e X.env) :: starEach es X.env := by rfl) (hpl : (backTo pos (starEach es X.env)).any (·.1) = false := by rfl) : SE X cl W (.Call (.Name x p) (e :: es) [] pos) (eCall d fa) := PE.of (pe_makeG M F c tk hb hg hm ha hdb he hpl) fun σ H Q p => by
  obtain ⟨φ, st, h0, S, R0, P⟩ := p
  refine ⟨φ, st, h0, S, R0, ?_⟩
  simp only [eCall] at P
  cases e1 : fa st h0 with
  | bad => simp only [e1, Rs.bind] at P; exact P
  | ex ex1 h1 => simp only [e1, Rs.bind] at P; exact P
  | ok xs h1 =>
    simp only [e1, Rs.bind] at P
    intro φ1 H1 vs l1 r1 q1 x dx n1 n2 ne
    have P1 := P.lat l1
    refine ⟨x, dx, H1, φ1, xs, h1, vs, rfl, n1, n2, ne, rfl, by rw [hal st h0 xs h1 e1, hn], q1, r1, ?_⟩
    cases e3 : d xs h1 with
    | bad => simp only [e3] at P1; exact P1
    | ex e4 h4 => simp only [e3] at P1; exact P1
    | ok o h4 =>
      simp only [e3] at P1
      exact fun φ' H' v l r q ev => ⟨rfl, ev ▸ P1 φ' H' v l r q⟩
end
end Y
end

section
set_option Elab.async false
set_option linter.all false
set_option maxRecDepth 100000
set_option maxHeartbeats 2000000
/-! YMx: the classes of the exceptions, from what the top has written. -/
namespace Y
open PySem PySem.Spec PyProof.Rows L2
section
variable {P : Program} {w : World} {K : PySem.W.Frag} {mg : Str → Option Value} {base : Heap} {c qual f g : Str} {C fI : Addr} {fd : FuncData} {st : Stmt} {q1 q2 q3 q4 r1 r2 r3 r4 : Pos}
theorem exc1 (gm : mg c = some (.ref C)) (hns : PySem.W.nsIn K mainGlobals c = some (some (.ref C))) (T : OexC K C) (iC : PySem.W.findIn K (.ref C) "__init__" = some (some (.ref fI))) (tI : PySem.W.typeIn K (.ref fI) = some (.type "function"))
    (F : Fun K "__init__" qual st fI fd) (S : FnScope ["self", f] ["self", f] (defScope st)) (hb : defBody st = [.Assign [.Attribute (.Name "self" q1) f q2] (.Name f q3) q4]) (hno : PySem.W.findIn K (.ref C) f = some none) (b : Binds K fd ["self", f] [])
    (v1 : (defScope st).names.lookup ("self" : Str) = some .local) (v2 : (defScope st).names.lookup f = some .local) (h1 : (f == ("__debug__" : Str)) = false) (h2 : (f == ("__classdict__" : Str)) = false)
    (hs : ∀ env : Env, swapsWith (.Name f q3) (some (.Attribute (.Name "self" q1) f q2)) q4.line env = pure false) : Exc P w K mg base c [f] := by
  refine ⟨C, fI, fd, gm, hns, T, iC, tI, ?_, b⟩
  obtain ⟨oc, od, kV, doc, pm, an, cdv, ct, osl, rfl, lk, hcd⟩ := F.ex
  refine fn_of lk hcd S (fun vs H Q E ⟨a, ws, e, l, _⟩ => by rw [e]; simp [l]) fun A outer s H vs Q E hr ⟨a, ws, e, l, ha, hq⟩ => ?_
  obtain ⟨x, rfl⟩ : ∃ x, ws = [x] := by
    match ws, l with
    | [x], _ => exact ⟨x, rfl⟩
  subst e
  refine ⟨_, by rw [hb]; exact pss_one (ps_ost (pe_var (i := 0) rfl (.inl v1) (by decide) (by decide)) (pe_var (i := 1) rfl (.inl v2) h1 h2) (hs _)), ?_⟩
  refine ⟨x, rfl, .ref a, rfl, a, C, rfl, T, hno, .inl ⟨ha, fun dx n ne => ?_⟩⟩
  refine hq dx _ n ne upd_same (by rw [upd_ne ne, upd_same]; rfl) fun b n1 n2 => ?_
  rw [upd_ne n1, upd_ne n2]
theorem exc2 (gm : mg c = some (.ref C)) (hns : PySem.W.nsIn K mainGlobals c = some (some (.ref C))) (T : OexC K C) (iC : PySem.W.findIn K (.ref C) "__init__" = some (some (.ref fI))) (tI : PySem.W.typeIn K (.ref fI) = some (.type "function"))
    (F : Fun K "__init__" qual st fI fd) (S : FnScope ["self", f, g] ["self", f, g] (defScope st))
    (hb : defBody st = [.Assign [.Attribute (.Name "self" q1) f q2] (.Name f q3) q4, .Assign [.Attribute (.Name "self" r1) g r2] (.Name g r3) r4]) (hno : PySem.W.findIn K (.ref C) f = some none) (hno2 : PySem.W.findIn K (.ref C) g = some none) (b : Binds K fd ["self", f, g] [])
    (v1 : (defScope st).names.lookup ("self" : Str) = some .local) (v2 : (defScope st).names.lookup f = some .local) (v3 : (defScope st).names.lookup g = some .local) (h1 : (f == ("__debug__" : Str)) = false) (h2 : (f == ("__classdict__" : Str)) = false) (h3 : (g == ("__debug__" : Str)) = false) (h4 : (g == ("__classdict__" : Str)) = false)
    (hs : ∀ env : Env, swapsWith (.Name f q3) (some (.Attribute (.Name "self" q1) f q2)) q4.line env = pure false) (hs2 : ∀ env : Env, swapsWith (.Name g r3) (some (.Attribute (.Name "self" r1) g r2)) r4.line env = pure false) : Exc P w K mg base c [f, g] := by
  refine ⟨C, fI, fd, gm, hns, T, iC, tI, ?_, b⟩
  obtain ⟨oc, od, kV, doc, pm, an, cdv, ct, osl, rfl, lk, hcd⟩ := F.ex
  refine fn_of lk hcd S (fun vs H Q E ⟨a, ws, e, l, _⟩ => by rw [e]; simp [l]) fun A outer s H vs Q E hr ⟨a, ws, e, l, ha, hq⟩ => ?_
  obtain ⟨x, y, rfl⟩ : ∃ x y, ws = [x, y] := by
    match ws, l with
    | [x, y], _ => exact ⟨x, y, rfl⟩
  subst e
  refine ⟨_, by rw [hb]; exact pss_cons (ps_ost (pe_var (i := 0) rfl (.inl v1) (by decide) (by decide)) (pe_var (i := 1) rfl (.inl v2) h1 h2) (hs _)) (pss_one (ps_ost (pe_var (i := 0) rfl (.inl v1) (by decide) (by decide)) (pe_var (i := 2) rfl (.inl v3) h3 h4) (hs2 _))), ?_⟩
  refine ⟨x, rfl, .ref a, rfl, a, C, rfl, T, hno, .inl ⟨ha, fun dx n ne => ?_⟩⟩
  refine ⟨y, rfl, .ref a, rfl, a, C, rfl, T, hno2, .inr ⟨dx, [(f, x)], upd_same, by rw [upd_ne ne, upd_same], by simp, ?_⟩⟩
  refine hq dx _ n ne (by rw [upd_ne (Ne.symm ne), upd_same]) upd_same fun b n1 n2 => ?_
  rw [upd_ne n2, upd_ne n1, upd_ne n2]
end
end Y
end

section
set_option Elab.async false
set_option linter.all false
set_option maxRecDepth 100000
set_option maxHeartbeats 2000000
/-! YMt: try .. except C as e: .. -/
namespace Y
open PySem PySem.Spec PyProof.Rows L2

abbrev XFs := List (Str × D)
/-- an expression of the caught exception's fields -/
abbrev Xv := XFs → Hm → Rs D
abbrev XAv := XFs → Hm → Rs (List D)
abbrev XSv := XFs → Sv
def xC (d : D) : Xv := fun _ h => .ok d h
def xF (n : Str) : Xv := fun fs h => ofO (fs.lookup n) h
def x2 (o : Hm → D → D → Option D) (f g : Xv) : Xv := fun fs h => (f fs h).bind fun x h1 => (g fs h1).bind fun y h2 => ofO (o h2 x y) h2
def xN : XAv := fun _ h => .ok [] h
def xA (f : Xv) (g : XAv) : XAv := fun fs h => (f fs h).bind fun x h1 => (g fs h1).bind fun xs h2 => .ok (x :: xs) h2
def xTup (a : XAv) : Xv := fun fs h => (a fs h).bind fun xs h1 => if xs.length ≤ line then .ok (.tup xs) h1 else .bad
def xB (o : Hm → List D → Option D) (a : XAv) : Xv := fun fs h => (a fs h).bind fun xs h1 => ofO (o h1 xs) h1
/-- name = e -/
def sXA (j : Nat) (g : Xv) : XSv := fun fs σ h => match g fs h with | .ok d h1 => .nx (σ.set j (some d)) h1 | _ => .bad
def sXR (g : Xv) : XSv := fun fs _ h => match g fs h with | .ok d h1 => .rt d h1 | _ => .bad
/-- the suite of a clause with a name: the name goes -/
def hNm (i : Nat) (f : XSv) : XSv := fun fs σ h => match f fs (σ.set i none) h with
  | .nx σ1 h1 => .nx (σ1.set i none) h1
  | .rt d h1 => .rt d h1
  | _ => .bad
/-- the suite of a clause without a name -/
def hPl (f : Sv) : XSv := fun _ σ h => match f σ h with
  | .nx σ1 h1 => .nx σ1 h1
  | .rt d h1 => .rt d h1
  | _ => .bad
def handle (errs : List Str) : List (Str × XSv) → Exn → Sv
  | [], e, σ, h => .ex e σ h
  | (c, s) :: r, e, σ, h => if e.cls ∈ errs ∧ c ∈ errs then (if c = "LineError" ∨ e.cls = c then s e.fs σ h else handle errs r e σ h) else .bad
def sTry (errs : List Str) (b : Sv) (hs : List (Str × XSv)) : Sv := fun σ h => match b σ h with
  | .ex e σ1 h1 => handle errs hs e σ1 h1
  | o => o
/-- what is known of the classes -/
def ErrsOk (K : PySem.W.Frag) (errs : List Str) : Prop := ∀ c ∈ errs, ∀ d ∈ errs, ∃ C E, PySem.W.nsIn K mainGlobals c = some (some (.ref C)) ∧ PySem.W.nsIn K mainGlobals d = some (some (.ref E)) ∧ PySem.W.exmOne K (.ref C) (.ref E) = some (decide (d = "LineError" ∨ c = d))

section
variable {K : PySem.W.Frag} {φ φ' : List Addr} {H H' : Hp} {st : Sl} {σ : L2.St} {cl : Nat → Addr}
theorem SR.hide (x : SR K φ H st σ) (i : Nat) (o : Option V) : SR K φ H (st.set i none) (σ.set i o) := by
  refine ⟨by simp [x.len], fun j c e => ?_⟩
  by_cases hj : j = i
  · subst hj
    have lt : j < st.length := by
      have := (List.getElem?_eq_some_iff.mp e).1
      simpa using this
    rw [List.getElem?_set_self lt] at e
    cases e
  · rw [List.getElem?_set_ne (Ne.symm hj)] at e
    rw [List.getElem?_set_ne (Ne.symm hj)]
    exact x.get j c e
/-- the caught exception, in slot i -/
structure XR (K : PySem.W.Frag) (i : Nat) (a : Addr) (d : Option Addr) (φ : List Addr) (H : Hp) (fs : XFs) (σ : L2.St) : Prop where
  sl : σ[i]? = some (some (.ref a))
  fl : (fs = [] ∧ d = none) ∨ ∃ dd gs, d = some dd ∧ dd ∉ φ ∧ H dd = some (.xd gs) ∧ RepF K φ H fs gs
theorem RepF.mono {fs : XFs} {gs : List (Str × V)} (p : φ <+: φ') (q : Per H H') (r : RepF K φ H fs gs) : RepF K φ' H' fs gs := Paired.mapP r fun _ _ z => ⟨z.1, Rep.mono p q _ _ z.2⟩
theorem RepF.get {fs : XFs} {gs : List (Str × V)} {n : Str} {d : D} (r : RepF K φ H fs gs) (e : fs.lookup n = some d) : ∃ v, gs.lookup n = some v ∧ Rep K φ H d v := by
  induction r with
  | nil => simp at e
  | @cons p q a b h _ ih =>
    obtain ⟨m, x⟩ := p
    obtain ⟨m', y⟩ := q
    obtain ⟨h1, h2⟩ := h
    simp only at h1 h2
    subst h1
    simp only [List.lookup_cons] at e ⊢
    cases hm : (n == m) with
    | true =>
      rw [hm] at e
      simp only at e
      cases e
      exact ⟨y, rfl, h2⟩
    | false =>
      rw [hm] at e
      exact ih e
theorem XR.mono {i : Nat} {a : Addr} {d : Option Addr} {fs : XFs} (x : XR K i a d φ H fs σ) (l : Lat φ H φ' H') : XR K i a d φ' H' fs σ := by
  obtain ⟨sl, z | ⟨dd, gs, ed, nd, eH, r⟩⟩ := x
  · exact ⟨sl, .inl z⟩
  · exact ⟨sl, .inr ⟨dd, gs, ed, l.out eH nd, l.keep dd _ eH nd, r.mono l.pre l.per⟩⟩
def tX {α β : Type} (K : PySem.W.Frag) (i : Nat) (a : Addr) (d : Option Addr) (Rel : RT α β) (f : XFs → Hm → Rs α) : L2.St → Hp → (β → Hp → Prop) → Prop := fun σ H Q =>
  ∃ φ h fs, XR K i a d φ H fs σ ∧ HR K φ H h ∧ Post K (fun _ => 0) φ H Rel (f fs h) Q fun _ _ _ => False
def tXs (K : PySem.W.Frag) (i : Nat) (a : Addr) (d : Option Addr) (f : XSv) : TS := fun D σ H => ∃ φ st h fs, SR K φ H st σ ∧ XR K i a d φ H fs σ ∧ HR K φ H h ∧ match f fs st h with
  | .nx σ1 h' => ∀ φ' H' τ, Lat φ H φ' H' → HR K φ' H' h' → SR K φ' H' σ1 τ → D.nx τ H'
  | .rt x h' => ∀ φ' H' v, Lat φ H φ' H' → HR K φ' H' h' → Rep K φ' H' x v → D.rt v H'
  | _ => False
end
section
variable {X : Cx} {a : Addr} {oe : Obj} {cls : Value} {d : Option Addr} {i j : Nat} {e e' : Expr} {es : List Expr} {f g : Xv} {fa : XAv} {pos p p1 p2 : Pos} {n x fn : Str} {C : Addr}
theorem x_seq1 {α β γ δ : Type} {R1 : RT γ δ} {f : XFs → Hm → Rs γ} {σ : L2.St} {H : Hp} {Q : β → Hp → Prop} {Rel : RT α β} [Back Rel] {k : γ → Hm → Rs α} {R : δ → Hp → Prop}
    (p : tX X.K i a d Rel (fun fs h => (f fs h).bind fun x h1 => k x h1) σ H Q)
    (h : ∀ φ H1 h1 x v, HR X.K φ H1 h1 → R1 H φ H1 x v → Post X.K (fun _ => 0) φ H1 Rel (k x h1) Q (fun _ _ _ => False) → R v H1) : tX X.K i a d R1 f σ H R := by
  obtain ⟨φ, h0, fs, S, R0, P⟩ := p
  exact ⟨φ, h0, fs, S, R0, P.seq fun x h1 φ1 H1 v l1 r1 q1 P1 => h φ1 H1 h1 x v r1 q1 P1⟩
theorem x_fld (T : XfC X.K C) (hno : PySem.W.findIn X.K (.ref C) n = some none) {pn : List (Addr × Obj)} (hz : Zc cls d oe) (hf : ∃ vs, oe.data = .fields vs) (hcls : cls = .ref C) (hN : X.N[i]? = some x)
    (hv : Vis X.env.scope x := by first | exact Or.inl rfl | exact Or.inr (Or.inl rfl) | exact Or.inr (Or.inr rfl)) (hd : (x == ("__debug__" : Str)) = false := by decide) (hcd : (x == ("__classdict__" : Str)) = false := by decide)
    (hb : attributeBase (.Name x p) n X.env (eval (.Name x p) X.env) = eval (.Name x p) X.env := by rfl) : PE (X.suite a ((a, oe) :: pn)) (.Attribute (.Name x p) n pos) (tX X.K i a d (RR X.K) (xF n)) :=
  PE.of (pe_xf T hno hz hf (pe_var (X := X.suite a ((a, oe) :: pn)) hN hv hd hcd) hb) fun σ H Q ⟨φ, h, fs, ⟨sl, hfl⟩, R, P⟩ => by
    simp only [xF] at P
    rcases hfl with ⟨rfl, _⟩ | ⟨dd, gs, ed, nd, eH, r⟩
    · exact P.elim
    cases e : fs.lookup n with
    | none => rw [e] at P; exact P.elim
    | some z =>
      rw [e] at P
      obtain ⟨v, h1, h2⟩ := r.get e
      exact ⟨_, sl, rfl, hcls, dd, gs, v, ed, eH, h1, P.val R h2⟩
theorem x_c {X : Cx} {i : Nat} {z : D} {v : V} (h : PE X e (L2.tC v)) (r : ∀ φ H, Rep X.K φ H z v) : PE X e (tX X.K i a d (RR X.K) (xC z)) := PE.of h fun σ H Q ⟨φ, h0, fs, S, R, P⟩ => P.val R (r φ H)
theorem x_int {k q} : PE X (.Constant (.int k) q pos) (tX X.K i a d (RR X.K) (xC (.int k))) := x_c pe_int fun _ _ => .int k
theorem x_str {k q} : PE X (.Constant (.str k) q pos) (tX X.K i a d (RR X.K) (xC (.str k))) := x_c pe_str fun _ _ => .str k
theorem x_op {op : Operator} {o : Hm → D → D → Option D} (ho : OpY X (binaryOp op) o) (ha : PE X e (tX X.K i a d (RR X.K) f)) (hb : PE X e' (tX X.K i a d (RR X.K) g)) : PE X (.BinOp e op e' pos) (tX X.K i a d (RR X.K) (x2 o f g)) := by
  refine ⟨fun pins s σ H Q I ⟨φ, h0, fs, S, R0, P⟩ => ?_⟩
  have z : tX X.K i a d (RR X.K) f σ H fun v H1 => tX X.K i a d (RR X.K) g σ H1 fun u H2 => ∃ φ h x y, HR X.K φ H2 h ∧ Rep X.K φ H2 x v ∧ Rep X.K φ H2 y u ∧ Post X.K (fun _ => 0) φ H2 (RR X.K) (ofO (o h x y) h) Q fun _ _ _ => False :=
    ⟨φ, h0, fs, S, R0, P.seq fun x h1 φ1 H1 v l1 r1 q1 P1 => ⟨φ1, h1, fs, S.mono l1, r1, P1.seq fun y h2 φ2 H2 u l2 r2 q2 P2 => ⟨φ2, h2, x, y, r2, Rep.mono l2.pre l2.per _ _ q1, q2, P2⟩⟩⟩
  refine wpAny_BinOp (bin ha hb I z fun v u s2 x y H2 I2 rx ry ⟨φ, h, dx, dy, r, q1, q2, P⟩ => ?_)
  exact ho _ _ Q φ H2 h dx dy x y pins s2 σ v u I2 rx ry r q1 q2 P
theorem x_nil : PA X [] (tX X.K i a d (RL X.K) xN) := PA.of pa_nil fun σ H Q ⟨φ, h, fs, S, R, P⟩ => P.val R .nil
theorem x_cons (h1 : PE X e (tX X.K i a d (RR X.K) f)) (h2 : PA X es (tX X.K i a d (RL X.K) fa)) (hs : starEach (e :: es) X.env = (false, eval e X.env) :: starEach es X.env := by rfl) : PA X (e :: es) (tX X.K i a d (RL X.K) (xA f fa)) := by
  refine PA.of (pa_cons h1 h2 hs) fun σ H Q ⟨φ, h, fs, S, R, P⟩ => ?_
  exact ⟨φ, h, fs, S, R, P.seq fun x h1 φ1 H1 v l1 r1 q1 P1 => ⟨φ1, h1, fs, S.mono l1, r1, P1.seq fun xs h2 φ2 H2 vs l2 r2 q2 P2 => P2.val r2 (.cons (Rep.mono l2.pre l2.per _ _ q1) q2)⟩⟩
theorem x_tup {x1} (h : PA X es (tX X.K i a d (RL X.K) fa)) : PE X (.Tuple es x1 pos) (tX X.K i a d (RR X.K) (xTup fa)) := PE.of (pe_tup h) fun σ H Q p =>
  x_seq1 (k := fun xs h1 => if xs.length ≤ line then Rs.ok (D.tup xs) h1 else .bad) p fun φ H1 h1 xs vs r q P => by
    split at P
    · rename_i hz
      refine ⟨by rw [← q.length, ← line_eq]; exact hz, fun p hp => P φ _ _ (Lat.new hp) (r.new hp) (.tup upd_same (RepL.mono (List.prefix_refl _) (Per.new hp) _ _ q))⟩
    · exact P.elim
theorem x_b {id : String} {o : Hm → List D → Option D} (hc : CaY X (.builtin id) o) (hv : bootBuiltins x = some (.builtin id)) (hm : X.mg x = none) (hg : Gl X x) (ha : PA X (e :: es) (tX X.K i a d (RL X.K) fa)) (hn : x ≠ "__name__" := by decide) (hdb : (x == ("__debug__" : Str)) = false := by decide)
    (he : starEach (e :: es) X.env = (false, eval e X.env) :: starEach es X.env := by rfl) (hpl : (backTo pos (starEach es X.env)).any (·.1) = false := by rfl) : PE X (.Call (.Name x p) (e :: es) [] pos) (tX X.K i a d (RR X.K) (xB o fa)) :=
  PE.of (pe_callB hc hg hm hv ha hn hdb he hpl) fun σ H Q p => x_seq1 (k := fun xs h1 => ofO (o h1 xs) h1) p fun φ H1 h1 xs vs r q P => ⟨_, _, φ, h1, xs, r, q, P⟩
theorem xs_asg {tg : Expr} (h : PE X e (tX X.K i a d (RR X.K) f)) (hg : SG X tg (gN j) [j]) (hs : swapsWithSole [tg] e pos.line X.env = pure false := by rfl) (hw : swappedStores [tg] e X.env = pure none := by rfl) (h1 : (assignEach [tg] X.env).map (·.2) = [assign tg X.env] := by rfl) :
    PSs X [.Assign [tg] e pos] (tXs X.K i a d (sXA j f)) := pss_one (PS.of (ps_asg h hg hs hw h1) fun D σ H ⟨φ, st, h, fs, S, xr, R, P⟩ => by
  refine ⟨φ, h, fs, xr, R, ?_⟩
  simp only [sXA] at P
  cases e1 : f fs h with
  | bad => simp only [e1] at P
  | ex _ _ => simp only [e1] at P
  | ok z h1 =>
    simp only [e1] at P
    exact fun φ1 H1 v l1 r1 q1 => ⟨φ1, st, z, _, S.mono l1, q1, rfl, fun τ S' _ => P φ1 H1 τ l1 r1 S'⟩)
theorem xs_ret (h : PE X e (tX X.K i a d (RR X.K) f)) : PSs X [.Return (some e) pos] (tXs X.K i a d (sXR f)) := pss_one (PS.of (ps_ret h) fun D σ H ⟨φ, st, h, fs, S, xr, R, P⟩ => by
  refine ⟨φ, h, fs, xr, R, ?_⟩
  simp only [sXR] at P
  cases e1 : f fs h with
  | bad => simp only [e1] at P
  | ex _ _ => simp only [e1] at P
  | ok z h1 =>
    simp only [e1] at P
    exact fun φ1 H1 v l1 r1 q1 => P φ1 H1 v l1 r1 q1)
end
/-- the clauses -/
inductive Cla (X : Cx) (cl : Nat → Addr) : List ExceptHandler → List (Str × XSv) → Prop
  | nil : Cla X cl [] []
  | nm {c n : Str} {i : Nat} {C : Addr} {f : XSv} {s1 : Stmt} {rest : List Stmt} {np hp : Pos} {hds : List ExceptHandler} {l : List (Str × XSv)} (hc : Names X c (.ref C)) (hns : PySem.W.nsIn X.K mainGlobals c = some (some (.ref C))) (hl : c ≠ "LineError") (hi : X.N[i]? = some n) (hln : X.env.kindOf n = some .local)
      (hsu : ∀ (a : Addr) (oe : Obj) (cls : Value) (d : Option Addr) (pn : List (Addr × Obj)), Zc cls d oe → (∃ vs, oe.data = .fields vs) → cls = .ref C → PSs (X.suite a ((a, oe) :: pn)) (s1 :: rest) (tXs X.K i a d f)) (r : Cla X cl hds l) :
      Cla X cl (.ExceptHandler (some (.Name c np)) (some n) (s1 :: rest) hp :: hds) ((c, hNm i f) :: l)
  | pl {c : Str} {C : Addr} {f : Sv} {s1 : Stmt} {rest : List Stmt} {np hp : Pos} {hds : List ExceptHandler} {l : List (Str × XSv)} (hc : Names X c (.ref C)) (hns : PySem.W.nsIn X.K mainGlobals c = some (some (.ref C)))
      (hsu : ∀ (a : Addr) (oe : Obj) (pn : List (Addr × Obj)), SSs (X.suite a ((a, oe) :: pn)) cl W0 (s1 :: rest) f) (r : Cla X cl hds l) :
      Cla X cl (.ExceptHandler (some (.Name c np)) none (s1 :: rest) hp :: hds) ((c, hPl f) :: l)
end Y
end

section
set_option Elab.async false
set_option linter.all false
set_option maxRecDepth 100000
set_option maxHeartbeats 2000000
/-! YMu: the rule of try .. except. -/
namespace Y
open PySem PySem.Spec PyProof.Rows L2
/-- what the clauses wish of an exception of the body -/
def wY (K : PySem.W.Frag) (cl : Nat → Addr) (errs : List Str) (l : List (Str × XSv)) (D : Ends) (W : WX) : WX := fun cls d σ H => ∃ φ st h e, SR K φ H st σ ∧ HR K φ H h ∧ ER K cl φ H e cls d ∧ PostS K cl φ H (handle errs l e st h) D W
section
variable {X : Cx} {cl : Nat → Addr} {W : WX} {body : List Stmt} {c0 : ExceptHandler} {cs : List ExceptHandler} {l : List (Str × XSv)} {b : Sv} {errs : List Str} {pos : Pos}
theorem xd_out {K : PySem.W.Frag} {φ : List Addr} {H : Hp} {h : Hm} {dd : Addr} {gs : List (Str × V)} (R : HR K φ H h) (e : H dd = some (.xd gs)) : dd ∉ φ := fun m => by
  obtain ⟨k, z⟩ := List.getElem?_of_mem m
  obtain ⟨o, _, q⟩ := R.at z
  cases q with
  | lst h _ => rw [e] at h; cases h
  | dct h _ => rw [e] at h; cases h
  | dtu h _ => rw [e] at h; cases h
theorem s_try (hk : X.stack = X.env :: X.outer) (hL : X.env.frame = some X.env.locals) (nd : X.N.Nodup) (T : ErrsOk X.K errs) (tk : Takes X W)
    (hb : ∀ (W' : WX) (pn : List (Addr × Obj)) (xe : Value → Shared → Prop), Takes (X.tr pn xe) W' → PassesOwn (model X.prog X.w) X.A X.env xe → SSs (X.tr pn xe) cl W' body b)
    (hh : Cla X cl (c0 :: cs) l) : SS X cl W (.Try body (c0 :: cs) [] [] pos) (sTry errs b l) := by
  refine ⟨fun pins sa σa Ha D I0 ⟨φ0, st0, hm0, S0, R0, P0⟩ => ?_⟩
  have okX := I0.ok
  have fr0 : X.A.frames = some (X.env :: X.outer) := by rw [okX.frames]; rw [hk]
  have start : tSt X.K cl (wY X.K cl errs l D W) b D σa Ha := by
    refine ⟨φ0, st0, hm0, S0, R0, ?_⟩
    simp only [sTry] at P0
    cases e : b st0 hm0 with
    | ex e1 σ1 h1 =>
      simp only [e] at P0
      exact fun φ' H' c d τ l r s er => ⟨φ', σ1, h1, e1, s, r, er, P0.lat l⟩
    | _ => simp only [e] at P0; exact P0
  refine wpAny_Try_except (wpAny_mono ((hb _ (X.pn ++ pins) (fun ev t1 => wpAny (model X.prog X.w) X.A (noteFrame ev X.env) (fun _ t2 => wpAny (model X.prog X.w) X.A (setFlight ev none)
    (fun _ t3 => wpAny (model X.prog X.w) X.A (handleBy ev X.env (c0 :: cs)) (SP X pins D) X.xe t3) X.xe t2) X.xe t1) (fun ev t0 air => ?_) PassesOwn.looking).run [] sa σa Ha D (I0.toTry _) start) (fun fl t1 out => ?_) fun _ _ q => q)
  · -- what flies is caught
    obtain ⟨ea, G, tI, pins1, σ1, H1, kc, dO, rfl, J1, keepG, up1, sky, fresh, os1, bare1, w⟩ := air
    have JX : Inv X pins σ1 H1 tI := J1.ofTry okX
    rw [show (X.tr (X.pn ++ pins) _).stack = X.env :: X.outer from hk] at sky
    change wpAny _ X.A (noteFrame (.ref ea) X.env) _ _ t0
    refine Sky.land Zc.steady fr0 hL sky fun hp fly up2 => ?_
    have JL : Inv X pins σ1 H1 { t0 with heap := hp } := JX.landed keepG fly.1 (up1.trans up2) os1 bare1
    obtain ⟨ox, vx, gx, zx, dx⟩ := fly.there
    have apart : ∀ {q : Heap} {o : Obj} {v : Array Value}, q.FunFrames G (X.env :: X.outer) → q.get? ea = some o → o.data = .fields v → ea ∉ frs (X.env :: X.outer) := by
      intro q o v ff g dd hm
      obtain ⟨_, o2, g2, nf⟩ := ff.mem hm
      rw [g] at g2
      cases g2
      exact nf _ dd
    have a0 := apart fly.2.2.1 gx dx
    have aL : ea ≠ X.env.locals := by
      intro z
      exact a0 (List.mem_filterMap.mpr ⟨X.env, by simp, by rw [hL, z]⟩)
    have aF : ea ∉ X.fs := by
      intro hm
      obtain ⟨en, hen, q⟩ := List.mem_filterMap.mp hm
      exact a0 (List.mem_filterMap.mpr ⟨en, by simp [hen], q⟩)
    have JS := JL.suite gx dx fresh aL aF
    have each : ∀ {ks : List ExceptHandler} {m : List (Str × XSv)}, Cla X cl ks m → wY X.K cl errs m D W kc dO σ1 H1 → wpAny (model X.prog X.w) X.A (handleBy (.ref ea) X.env ks) (SP X pins D) X.xe { t0 with heap := hp } := by
      intro ks m hks
      have classTest : ∀ {c : Str} {C : Addr} {np : Pos}, Names X c (.ref C) → ∀ {Q : Value → Shared → Prop} {E : Value → Shared → Prop}, Q (.ref C) { t0 with heap := hp } → wpAny (model X.prog X.w) (X.A.mark (some (.ref ea))) (eval (.Name c np) X.env) Q E { t0 with heap := hp } := by
        intro c C np hc Q E q
        obtain ⟨hg, hdb, hm | ⟨hm, hv, hn⟩⟩ := hc
        · exact ld_glob (X := X.suite ea ((ea, ox) :: (X.pn ++ pins))) JS hg hm q hdb
        · exact ld_blt (X := X.suite ea ((ea, ox) :: (X.pn ++ pins))) JS hg hm hv q hn hdb
      have looksT : PySem.W.Looks (model X.prog X.w) hp (typeOf (.ref ea)) kc := fun A Q E s k q => wpAny_typeOf_ref (k _ _ gx) (by rw [zx.1]; exact q)
      have known : ∀ {e : Exn} {φ : List Addr} {c : Str} {C : Addr}, ER X.K cl φ H1 e kc dO → e.cls ∈ errs → c ∈ errs → PySem.W.nsIn X.K mainGlobals c = some (some (.ref C)) →
          PySem.W.exmOne X.K kc (.ref C) = some (decide (c = "LineError" ∨ e.cls = c)) ∧ (e.cls = c → kc = .ref C) := by
        intro e φ c C er m1 m2 hc
        obtain ⟨⟨C1, rfl, n1⟩, _⟩ := er
        obtain ⟨C2, C3, n2, n3, x⟩ := T _ m1 _ m2
        rw [n1] at n2
        cases n2
        rw [hc] at n3
        cases n3
        refine ⟨x, fun z => ?_⟩
        rw [z, hc] at n1
        cases n1
        rfl
      induction hks with
      | nil =>
        rintro ⟨φ, st, hm, e, S, R, er, P⟩
        refine wpAny_handleBy_nil ?_
        obtain ⟨g1, g2, g3, oq, vq, T1, oT, tq, gq, zq, dq, f1, rq⟩ := id fly
        unfold PySem.passOn
        refine wpAny_bind (wpAny_field gq dq f1 ?_)
        rw [if_neg (show ¬ ((Value.ref T1 == Value.none) = true) by simp)]
        have last : wpAny (model X.prog X.w) X.A (setFlight (.ref ea) X.env.frame) (fun _ t4 => wpAny (model X.prog X.w) X.A (throw (.ref ea) : Sem Flow) (SP X pins D) X.xe t4) X.xe { t0 with heap := hp } := by
          rw [hL]
          refine HandSPX.setFlight_upZ fly fun h4 held up4 => wpAny_throw (tk _ _ ⟨ea, G, tI, pins, σ1, H1, kc, dO, rfl, JX, keepG, (up1.trans up2).trans up4, .inr (.inr (by rw [hk]; exact held)), fresh, os1, bare1, ?_⟩)
          exact P φ H1 kc dO σ1 (Lat.refl _ _) R S er
        first
          | exact wpAny_bind (wpAny_pure (wpAny_bind last))
          | exact wpAny_bind last
      | @nm c n i C f s1 rest np hp' hds m2 hc hns hne hi hln hsu r ih =>
        rintro ⟨φ, st, hm, e, S, R, er, P⟩
        simp only [handle] at P
        split at P
        · rename_i hm2
          obtain ⟨x1, x2⟩ := known er hm2.1 hm2.2 hns
          refine wpAny_handleBy_cons (codeAny_handlers_test (classTest hc ?_)) (by intro q; cases q)
          refine (PySem.W.exm_one (M := model X.prog X.w) JL.kIn looksT x1).here ?_
          by_cases hcc : c = "LineError" ∨ e.cls = c
          · rw [decide_eq_true hcc]
            rw [if_pos hcc] at P
            have eC := x2 (hcc.resolve_left hne)
            refine codeAny_handlers_suite_as (HandSPX.lands_againZ fly fun h4 fly4 up4 => ?_)
            have J4 : Inv X pins σ1 H1 { t0 with heap := h4 } := JX.landed keepG fly4.1 ((up1.trans up2).trans up4) os1 bare1
            obtain ⟨o4, v4, g4, z4, d4⟩ := fly4.there
            refine store_ok (X := X.suite ea ((ea, o4) :: (X.pn ++ pins))) (v := .ref ea) (J4.suite g4 d4 fresh aL aF) nd hi (.inl hln) rfl (fun t5 J5 => ?_) (.inr hln)
            have lt : i < σ1.length := by rw [← S.len, S.len, JX.len]; exact (List.getElem?_eq_some_iff.mp hi).1
            have xr : XR X.K i ea dO φ H1 e.fs (σ1.set i (some (.ref ea))) := by
              refine ⟨List.getElem?_set_self lt, ?_⟩
              rcases er.2 with z | ⟨dd, gs, z1, z2, z3⟩
              · exact .inl z
              · exact .inr ⟨dd, gs, z1, xd_out R z2, z2, z3⟩
            have go : tXs X.K i ea dO f { nx := fun σ' H' => D.nx (σ'.set i none) H', rt := D.rt, bk := fun σ' H' => D.bk (σ'.set i none) H', ct := fun σ' H' => D.ct (σ'.set i none) H' } (σ1.set i (some (.ref ea))) H1 := by
              refine ⟨φ, st.set i none, hm, e.fs, S.hide i _, xr, R, ?_⟩
              simp only [hNm] at P
              cases q : f e.fs (st.set i none) hm with
              | nx σ2 h2 => simp only [q] at P; exact fun φ' H' τ l r s => P φ' H' _ l r (s.off i)
              | rt z h2 => simp only [q] at P; exact P
              | _ => simp only [q] at P; exact P
            refine wpAny_mono ((hsu ea o4 kc dO (X.pn ++ pins) z4 ⟨_, d4⟩ eC).run [] t5 _ H1 _ J5 go) (fun fl t6 out => ?_) fun _ _ q => q.elim
            have fin : ∀ {σ6 : L2.St} {H6 : Hp} {Q : Shared → Prop}, Inv (X.suite ea ((ea, o4) :: (X.pn ++ pins))) [] σ6 H6 t6 → (∀ t7, Inv X pins (σ6.set i none) H6 t7 → Q t7) →
                wpAny (model X.prog X.w) X.A (do bindName X.env n .none; unbindBehindTheSuite X.env n hp') (fun _ t7 => Q t7) X.xe t6 := fun J6 hq => gone_ok (J6.unsuite okX) nd hi hln hq
            cases fl with
            | next => obtain ⟨σ6, H6, J6, q6⟩ := out; exact fin J6 fun _ J7 => ⟨_, _, J7, q6⟩
            | brk => obtain ⟨σ6, H6, J6, q6⟩ := out; exact fin J6 fun _ J7 => ⟨_, _, J7, q6⟩
            | cont => obtain ⟨σ6, H6, J6, q6⟩ := out; exact fin J6 fun _ J7 => ⟨_, _, J7, q6⟩
            | ret u => obtain ⟨v6, σ6, H6, J6, r6, q6⟩ := out; exact fin J6 fun _ J7 => ⟨_, _, _, J7, r6, q6⟩
          · rw [decide_eq_false hcc]
            rw [if_neg hcc] at P
            exact ih ⟨φ, st, hm, e, S, R, er, P⟩
        · exact P.elim
      | @pl c C f s1 rest np hp' hds m2 hc hns hsu r ih =>
        rintro ⟨φ, st, hm, e, S, R, er, P⟩
        simp only [handle] at P
        split at P
        · rename_i hm2
          obtain ⟨x1, x2⟩ := known er hm2.1 hm2.2 hns
          refine wpAny_handleBy_cons (codeAny_handlers_test (classTest hc ?_)) (by intro q; cases q)
          refine (PySem.W.exm_one (M := model X.prog X.w) JL.kIn looksT x1).here ?_
          by_cases hcc : c = "LineError" ∨ e.cls = c
          · rw [decide_eq_true hcc]
            rw [if_pos hcc] at P
            refine codeAny_handlers_suite (HandSPX.lands_againZ fly fun h4 fly4 up4 => ?_)
            have J4 : Inv X pins σ1 H1 { t0 with heap := h4 } := JX.landed keepG fly4.1 ((up1.trans up2).trans up4) os1 bare1
            obtain ⟨o4, v4, g4, z4, d4⟩ := fly4.there
            have go : tSt X.K cl W0 f D σ1 H1 := by
              refine ⟨φ, st, hm, S, R, ?_⟩
              simp only [hPl] at P
              cases q : f st hm with
              | nx σ2 h2 => simp only [q] at P; exact P
              | rt z h2 => simp only [q] at P; exact P
              | _ => simp only [q] at P; exact P.elim
            refine wpAny_mono ((hsu ea o4 (X.pn ++ pins)).run [] _ σ1 H1 _ (J4.suite g4 d4 fresh aL aF) go) (fun fl t6 out => ?_) fun _ _ q => q.elim
            cases fl with
            | next => obtain ⟨σ6, H6, J6, q6⟩ := out; exact ⟨_, _, J6.unsuite okX, q6⟩
            | brk => obtain ⟨σ6, H6, J6, q6⟩ := out; exact ⟨_, _, J6.unsuite okX, q6⟩
            | cont => obtain ⟨σ6, H6, J6, q6⟩ := out; exact ⟨_, _, J6.unsuite okX, q6⟩
            | ret u => obtain ⟨v6, σ6, H6, J6, r6, q6⟩ := out; exact ⟨_, _, _, J6.unsuite okX, r6, q6⟩
          · rw [decide_eq_false hcc]
            rw [if_neg hcc] at P
            exact ih ⟨φ, st, hm, e, S, R, er, P⟩
        · exact P.elim
    exact each hh w
  · cases fl with
    | next => obtain ⟨σ2, H2, J2, q2⟩ := out; exact wpAny_execs_nil ⟨σ2, H2, J2.ofTry okX, q2⟩
    | brk => obtain ⟨σ2, H2, J2, q2⟩ := out; exact ⟨σ2, H2, J2.ofTry okX, q2⟩
    | cont => obtain ⟨σ2, H2, J2, q2⟩ := out; exact ⟨σ2, H2, J2.ofTry okX, q2⟩
    | ret u => obtain ⟨v, σ2, H2, J2, r2, q2⟩ := out; exact ⟨v, σ2, H2, J2.ofTry okX, r2, q2⟩
end
end Y
end

section
set_option Elab.async false
set_option linter.all false
set_option maxRecDepth 100000
set_option maxHeartbeats 2000000
/-! YMv: what gen.py prints for own classes, exceptions and try. -/
namespace Y
open PySem PySem.Spec PyProof.Rows L2
/-- the statements of a class -/
def clsB (s : Stmt) : List Stmt := match s with
  | .ClassDef (body := b) .. => b
  | _ => []
/-- a class whose __init__ does what d does -/
def MkD (P : Program) (w : World) (K : PySem.W.Frag) (cl : Nat → Addr) (mg : Str → Option Value) (base : Heap) (k : Nat) (c : Str) (ps : List Str) (n : Nat) (d : Fn) : Prop :=
  ∃ (C f : Addr) (fd : FuncData), mg c = some (.ref C) ∧ Mk K C f ∧ Binds K fd ps [] ∧ FnG P w K mg base k f fd ps (spO K cl C n d)
/-- an exception class as a clause names it -/
def Hcl (K : PySem.W.Frag) (mg : Str → Option Value) (c : Str) (fs : List Str) : Prop :=
  ∃ C : Addr, mg c = some (.ref C) ∧ PySem.W.nsIn K mainGlobals c = some (some (.ref C)) ∧ (fs ≠ [] → XfC K C) ∧ ∀ n ∈ fs, PySem.W.findIn K (.ref C) n = some none
theorem Cs.tr {k : Nat} {X : Cx} (c : Cs k X) {pn : List (Addr × Obj)} {xe : Value → Shared → Prop} : Cs k (X.tr pn xe) := ⟨c.room, c.gd, c.calm, c.nd⟩
theorem exm_of {K : PySem.W.Frag} {S C : Addr} {b : Bool} (h1 : PySem.W.subIn K (.ref C) (.type "BaseException") = some true) (h2 : PySem.W.isClsIn K C = true) (h3 : PySem.W.typeIn K (.ref C) = some (.type "type")) (h4 : PySem.W.subIn K (.ref S) (.ref C) = some b) : PySem.W.exmOne K (.ref S) (.ref C) = some b := by
  have q : (PySem.W.clsIn K C).isSome = true := h2
  simp [PySem.W.exmOne, PySem.W.kitCls, h1, q, h3, h4]
theorem kit_of {K : PySem.W.Frag} {T : String} {C : Addr} {b : Bool} (h2 : PySem.W.isClsIn K C = true) (h3 : PySem.W.typeIn K (.ref C) = some (.type "type")) (h4 : PySem.W.subIn K (.type T) (.ref C) = some b) : PySem.W.kitOne K (.type T) (.ref C) = some b := by
  have q : (PySem.W.clsIn K C).isSome = true := h2
  have e : ¬ ((Value.type T == Value.ref C) = true) := fun h => by cases (beq_iff_eq.mp h)
  rw [PySem.W.kitOne, if_neg e]
  simp [PySem.W.kitCls, q, h3, h4]
theorem kit_self {K : PySem.W.Frag} {C : Addr} : PySem.W.kitOne K (.ref C) (.ref C) = some true := by simp [PySem.W.kitOne]
section
variable {X : Cx} {cl : Nat → Addr} {W : WX} {e : Expr} {es : List Expr} {fa : Av} {pos p : Pos} {k j n : Nat} {x c m : Str} {ps fs : List Str} {d : Fn}
theorem q_mk (F : MkD X.prog X.w X.K cl X.mg X.base j x ps n d) (hj : j + 1 ≤ k) (c : Cs k X) (tk : Takes X W) (ha : SA X cl W (e :: es) fa) (hal : ∀ σ h xs h', fa σ h = .ok xs h' → xs.length = (e :: es).length) (hn : (e :: es).length = n := by rfl) (hg : Gl X x := by rfl) (hdb : (x == ("__debug__" : Str)) = false := by decide)
    (he : starEach (e :: es) X.env = (false, eval e X.env) :: starEach es X.env := by rfl) (hpl : (backTo pos (starEach es X.env)).any (·.1) = false := by rfl) : SE X cl W (.Call (.Name x p) (e :: es) [] pos) (eCall d fa) := by
  obtain ⟨C, f, fd, hm, M, hb, G⟩ := F
  exact s_mk M G (c.mono hj) tk hg hm hb hn hal ha hdb he hpl
theorem cx_repr (c0 : Cs k X) {a : Addr} {pn : List (Addr × Obj)} : CaY (X.suite a pn) (.builtin "repr") bRepr := c_reprW (by have := c0.room.un; show X.A.units + 200 < cLine; omega) c0.gd
theorem c_nm {i : Nat} {f : XSv} {s1 : Stmt} {rest : List Stmt} {np hp : Pos} {hds : List ExceptHandler} {l : List (Str × XSv)} (T : Hcl X.K X.mg c fs) (hfs : fs ≠ []) (hi : X.N[i]? = some m) (hln : X.env.kindOf m = some .local)
    (hsu : ∀ (a : Addr) (oe : Obj) (cls : Value) (d : Option Addr) (pn : List (Addr × Obj)) (C : Addr), Zc cls d oe → (∃ vs, oe.data = .fields vs) → cls = .ref C → XfC X.K C → (∀ n ∈ fs, PySem.W.findIn X.K (.ref C) n = some none) → PSs (X.suite a ((a, oe) :: pn)) (s1 :: rest) (tXs X.K i a d f)) (r : Cla X cl hds l)
    (hg : Gl X c := by rfl) (hdb : (c == ("__debug__" : Str)) = false := by decide) (hl : c ≠ "LineError" := by decide) : Cla X cl (.ExceptHandler (some (.Name c np)) (some m) (s1 :: rest) hp :: hds) ((c, hNm i f) :: l) := by
  obtain ⟨C, gm, hns, xf, no⟩ := T
  exact .nm ⟨hg, hdb, .inl gm⟩ hns hl hi hln (fun a oe cls d pn h1 h2 h3 => hsu a oe cls d pn C h1 h2 h3 (xf hfs) no) r
theorem c_pl {f : Sv} {s1 : Stmt} {rest : List Stmt} {np hp : Pos} {hds : List ExceptHandler} {l : List (Str × XSv)} (T : Hcl X.K X.mg c fs) (hsu : ∀ (a : Addr) (oe : Obj) (pn : List (Addr × Obj)), SSs (X.suite a ((a, oe) :: pn)) cl W0 (s1 :: rest) f) (r : Cla X cl hds l)
    (hg : Gl X c := by rfl) (hdb : (c == ("__debug__" : Str)) = false := by decide) : Cla X cl (.ExceptHandler (some (.Name c np)) none (s1 :: rest) hp :: hds) ((c, hPl f) :: l) := by
  obtain ⟨C, gm, hns, xf, no⟩ := T
  exact .pl ⟨hg, hdb, .inl gm⟩ hns hsu r
end
end Y
end

section
set_option Elab.async false
set_option linter.all false
set_option maxRecDepth 100000
set_option maxHeartbeats 2000000
/-! YMe: enumerate of a tuple. -/
namespace Y
open PySem PySem.Spec PyProof.Rows L2
theorem meets_enum1 {v : Value} {o : Obj} {G : Heap → Prop} (B : Begins v o G) :
    Meets (Builtin.«enumerate.__new__» ⟨[.type "enumerate", v], []⟩) (fun _ R st => G st.heap ∧
      R (.ok (.ret (.ref (st.heap.push o).objs.size))) { st with heap := (st.heap.push o).push { cls := .type "enumerate", data := .fields #[.none, .bool false, .ref st.heap.objs.size, rawInt 0, .none, .none] } }) :=
  .of_wp fun prog w A R st hyp => by
    obtain ⟨hp, gens, dr, tok, osS⟩ := st
    obtain ⟨hG, hyp⟩ := hyp
    have hsub := sub_enumerate
    have it1 : ∀ {A' : Around} {E : Value → Shared → Prop} {Q : Value → Shared → Prop}, Q (.ref hp.objs.size) ⟨hp.push o, gens, dr, tok, osS⟩ → wpAny (model prog w) A' (pyIter v) Q E ⟨hp, gens, dr, tok, osS⟩ := fun q =>
      B.iter prog w _ _ ⟨hp, gens, dr, tok, osS⟩ _ hG q
    wp_walk using it1
    refine wpAny_stack_any fun stk => wpAny_pure ?_
    split
    · rename_i c _ _ _ _ _
      cases (c == Value.type "enumerate") <;> (wp_walk using it1; exact ⟨_, rfl, hyp⟩)
    · wp_walk using it1
      exact ⟨_, rfl, hyp⟩
theorem enum1 {prog : Program} {w : World} {A : Around} {E : Value → Shared → Prop} {st : Shared} {v : Value} {o : Obj} {G : Heap → Prop} {Q : Value → Shared → Prop} (B : Begins v o G) (hG : G st.heap)
    (hyp : ∀ h2, IsEnum h2 (st.heap.objs.size + 1) st.heap.objs.size 0 .none → h2.get? st.heap.objs.size = some o → (∀ b u, st.heap.get? b = some u → h2.get? b = some u) → Q (.ref (st.heap.objs.size + 1)) { st with heap := h2 }) :
    wpAny (model prog w) A (call (.type "enumerate") [v]) Q E st := by
  refine callType_new F.called_enumerate (by decide) (F.typeCall_enumerate_1 _) (F.newCall_enumerate_1 _) (fun obj => F.args_object_init_2 obj _) F.entry_enumerate_new (meets_enum1 B) ⟨hG, ?_⟩
  have size1 : (st.heap.push o).objs.size = st.heap.objs.size + 1 := Heap.size_push ..
  show _ ∧ _
  rw [size1]
  have made := Heap.get?_push_size (st.heap.push o) (o := { cls := .type "enumerate", data := .fields #[.none, .bool false, .ref st.heap.objs.size, rawInt 0, .none, .none] }) rfl
  rw [size1] at made
  exact ⟨⟨_, made, rfl⟩, hyp _ made (Heap.get?_push_of_some _ (Heap.get?_push_size _ B.free)) fun b u q => Heap.get?_push_of_some _ (Heap.get?_push_of_some _ q)⟩
/-- the tuple at a, each item in a new pair -/
def IteT (K : PySem.W.Frag) (a : Addr) : It :=
  ⟨fun i H => ∃ (xs : List V) (x : V), SqT K H a xs ∧ xs[i]? = some x, fun i H v H' => ∃ T x, v = .ref T ∧ H T = none ∧ H' = upd H T (.tup [.int (i : Nat), x]) ∧ ∀ xs, SqT K H a xs → xs[i]? = some x, fun i H => ∃ xs : List V, SqT K H a xs ∧ xs.length = i⟩
theorem turn_enumT {P : Program} {w : World} {K : PySem.W.Frag} {elts : List Expr} {kk : Nat} {tpos : Pos} (a e it : Addr) :
    Turn P w K (.Tuple elts kk tpos) (IteT K a) [e, it] e (fun i h => (∃ old, IsEnum h e it ((i : Nat) : Int) old) ∧ h.IsTupleIter it a i ∧ e ≠ it ∧ a ≠ it ∧ a ≠ e) where
  mem := by simp
  obj := fun i h st b hb => by
    obtain ⟨⟨old, he⟩, ⟨oi, hoi, hci, hdi⟩, _⟩ := st
    rcases (show b = e ∨ b = it by simpa using hb) with z | z
    · subst z; exact ⟨_, he, fun v q => nomatch q⟩
    · subst z; exact ⟨oi, hoi, fun v q => by rw [hdi] at q; cases q⟩
  keep := fun i h h' st kp => by
    obtain ⟨⟨old, he⟩, hi, apart⟩ := st
    exact ⟨⟨old, kp e (by simp) _ he⟩, hi.at fun o q => kp it (by simp) o q, apart⟩
  item := by
    intro X hP hw hK hc i pins st σ H E I hf tn hgo
    subst hP hw hK
    obtain ⟨⟨old, he⟩, hit, d1, d2, d3⟩ := tn
    obtain ⟨xs, x, hq, hx⟩ := hgo
    obtain ⟨its, rv, p, hz⟩ := I.tuple hq
    obtain ⟨u, hu, ru⟩ := rv.get hx
    have le : e < st.heap.objs.size := Heap.lt_size he
    have li : it < st.heap.objs.size := by obtain ⟨_, q, _⟩ := hit; exact Heap.lt_size q
    have hlt : i < its.toArray.size := by have := (List.getElem?_eq_some_iff.mp hu).1; simpa using this
    have it2 : st.heap.IsTuple a its.toArray := p
    refine wpAny_pyNext_enum_itemD (Draws.tuple (show X.A.in1.handled = none from I.ok.hd hc) it a d2 its.toArray) he ⟨hit, it2⟩ hlt d1 (by simp [d1, Ne.symm d3]) fun y h2 tk hy ho hst2 hT hsz hk => ?_
    have ey : y = u := by
      rw [show its.toArray[i]? = its[i]? by simp, hu] at hy
      exact (Option.some.inj hy).symm
    subst ey
    refine ⟨_, rfl, wpAny_letOwnedTupleGo_enum (s := { st with heap := h2, toks := tk + 1 }) ho fun h3 he3 sb => ?_⟩
    have tup3 : h3.get? st.heap.objs.size = some { cls := .type "tuple", data := .seq #[.int i tk, y] } := (sb.2 _ (Nat.ne_of_gt le)).trans hT
    have fresh : ObjOk X.prog X.w (upd H st.heap.objs.size (.tup [.int (i : Nat), x])) h3 st.heap.objs.size (.tup [.int (i : Nat), x]) :=
      ⟨by show 2 ≤ sizeLine; decide, [.int i tk, y], .cons ⟨_, rfl⟩ (.cons ru .nil), ⟨_, tup3, rfl, _, rfl⟩⟩
    have J : Inv X pins σ (upd H st.heap.objs.size (.tup [.int (i : Nat), x])) { st with heap := h3, toks := tk + 1 } :=
      I.turnedNew (ch := [e, it]) (fun b ob hb q => by
        simp only [List.mem_cons, List.not_mem_nil, or_false, not_or] at hb
        exact (sb.2 b hb.1).trans (hk b ob hb.1 hb.2 q)) hf (Nat.le_refl _) fresh
    refine ⟨.ref st.heap.objs.size, _, J, rfl, ⟨_, x, rfl, I.hok.fresh (Nat.le_refl _), rfl, fun ys hy => by rw [I.tuple_inj hy hq]; exact hx⟩, ⟨⟨y, ?_⟩, hst2.1.at fun o q => (sb.2 it (Ne.symm d1)).trans q, d1, d2, d3⟩, fun b hb => ?_⟩
    · rw [show ((i + 1 : Nat) : Int) = (i : Int) + 1 by omega]; exact he3
    · have lb : b < st.heap.objs.size := by
        rcases (show b = e ∨ b = it by simpa using hb) with z | z <;> subst z <;> assumption
      rw [upd_ne (Nat.ne_of_lt lb)]
      exact (hf b hb).1
  done := by
    intro X hP hw hK hc i pins st σ H E I hf tn hstop
    subst hP hw hK
    obtain ⟨⟨old, he⟩, hit, d1, d2, d3⟩ := tn
    obtain ⟨xs, hq, hx⟩ := hstop
    obtain ⟨its, rv, p, hz⟩ := I.tuple hq
    obtain ⟨f0, f1, f2, f3, f4, f5⟩ := hf it (by simp)
    have hn : i = its.toArray.size := by rw [← hx, rv.length]; simp
    subst hn
    exact wpAny_pyNext_enum_endD (Draws.tuple (show X.A.in1.handled = none from I.ok.hd hc) it a d2 its.toArray) he ⟨hit, p⟩ fun h2 eb => ⟨rfl, I.turned (t' := st.toks) (fun b o hb q => eb b o hb q) f0 f1 f3 f4 f5⟩
  self := fun A i st Q E tn h => by
    obtain ⟨⟨_, he⟩, _⟩ := tn
    exact wpAny_pyIter_enum he h
def iEnumA (K : PySem.W.Frag) (ta : TA) : TI := fun σ H R => ta σ H fun vs H1 => ∃ a xs, vs = [.ref a] ∧ ((SqL K H1 a xs ∧ R (Ite K a) H1) ∨ (SqT K H1 a xs ∧ R (IteT K a) H1))
theorem pi_enumA {X : Cx} {e : Expr} {ta : TA} {p pos tpos : Pos} {elts : List Expr} {kk : Nat} (hg : Gl X "enumerate") (hm : X.mg "enumerate" = none) (ha : PA X [e] ta) (hs : starEach [e] X.env = [(false, eval e X.env)] := by rfl) :
    PI X (.Tuple elts kk tpos) (.Call (.Name "enumerate" p) [e] [] pos) (iEnumA X.K ta) := by
  refine ⟨fun pins st σ H R I h => ?_⟩
  refine Call_ (ld_blt I hg hm boot_enumerate (PyProof.Rows.callWith_type1 (thn (ha.run pos pins st σ H _ I h) fun us s1 ⟨vs, H1, I1, r1, q1⟩ => ?_) hs rfl))
  obtain ⟨a, xs, ex, q⟩ := q1
  subst ex
  cases r1 with
  | cons r rr =>
    cases rr
    cases r
    have fpok : ∀ b ∈ [s1.heap.objs.size + 1, s1.heap.objs.size], FpOk X pins H1 b := fun b hb => by
      have le : s1.heap.objs.size ≤ b := by
        rcases (show b = s1.heap.objs.size + 1 ∨ b = s1.heap.objs.size by simpa using hb) with z | z <;> omega
      exact I1.fpOk le (I1.hok.fresh le)
    rcases q with ⟨hq, q⟩ | ⟨hq, q⟩
    · obtain ⟨its, rv, p', hz⟩ := I1.list hq
      refine call_enumerate_list p'.isList fun h2 he hit hsz hk => wpAny_pyIter_enum he ?_
      exact ⟨s1.heap.objs.size + 1, [s1.heap.objs.size + 1, s1.heap.objs.size], _, _, H1, rfl, I1.kept (t' := s1.toks) hk, turn_enum a (s1.heap.objs.size + 1) s1.heap.objs.size, ⟨⟨.none, he⟩, hit, Nat.succ_ne_self _⟩, fpok, q⟩
    · obtain ⟨its, rv, p', hz⟩ := I1.tuple hq
      have it2 : s1.heap.IsTuple a its.toArray := p'
      have la : a < s1.heap.objs.size := by obtain ⟨_, z, _⟩ := it2; exact Heap.lt_size z
      refine enum1 (begins_tuple a its.toArray) it2 fun h2 he hit hk => wpAny_pyIter_enum he ?_
      exact ⟨s1.heap.objs.size + 1, [s1.heap.objs.size + 1, s1.heap.objs.size], _, _, H1, rfl, I1.kept (t' := s1.toks) hk, turn_enumT a (s1.heap.objs.size + 1) s1.heap.objs.size, ⟨⟨.none, he⟩, ⟨_, hit, rfl, rfl⟩, Nat.succ_ne_self _, Nat.ne_of_lt la, Nat.ne_of_lt (Nat.lt_succ_of_lt la)⟩, fpok, q⟩
/-- enumerate(x): a list that is never changed, or a tuple -/
def numA : List D → Option (List D)
  | [.tup xs] => some (enumD 0 xs)
  | xs => numD xs
def iEnumV (a : Av) : Iv := fun σ h => (a σ h).bind fun xs h1 => ofO (numA xs) h1
section
variable {X : Cx} {cl : Nat → Addr} {W : WX} {a : Expr} {fa : Av} {pos : Pos}
theorem drv_enumT {K : PySem.W.Frag} {φ : List Addr} {H : Hp} {p : Addr} {xs : List D} {vs : List V} (h1 : ∀ H', Per H H' → SqT K H' p vs) (r1 : RepL K φ H xs vs) : Drv K φ H (IteT K p) (enumD 0 xs) := fun φ' H' h l R => by
  have q1 := RepL.mono l.pre l.per _ _ r1
  refine ⟨fun i d e => ?_, vs, h1 _ l.per, by rw [enum_len, q1.length]⟩
  obtain ⟨x, e1, rfl⟩ := enum_get e
  obtain ⟨v, z1, z2⟩ := q1.get e1
  refine ⟨⟨vs, v, h1 _ l.per, z1⟩, fun w H2 yl => ?_⟩
  obtain ⟨T, v', rfl, hT, rfl, y1⟩ := yl
  have w1 := y1 vs (h1 _ l.per)
  rw [z1] at w1
  cases w1
  rw [Nat.zero_add]
  exact pair_rep R hT (.int _) z2
theorem i_enumV {elts : List Expr} {kk : Nat} {tpos p : Pos} (hg : Gl X "enumerate") (hm : X.mg "enumerate" = none) (ha : SA X cl W [a] fa) (hs : starEach [a] X.env = [(false, eval a X.env)] := by rfl) :
    SI X cl W (.Tuple elts kk tpos) (.Call (.Name "enumerate" p) [a] [] pos) (iEnumV fa) := PI.of (pi_enumA hg hm ha hs) fun σ H R p => by
  obtain ⟨φ, st, h0, S, R0, P⟩ := p
  refine ⟨φ, st, h0, S, R0, ?_⟩
  simp only [iEnumV] at P
  cases e : fa st h0 with
  | bad => simp only [e, Rs.bind] at P
  | ex _ _ => simp only [e, Rs.bind] at P; exact P
  | ok xs h1 =>
    simp only [e, Rs.bind] at P
    intro φ1 H1 vs l1 r1 q1
    have other : numA xs = numD xs → ∃ a us, vs = [.ref a] ∧ ((SqL X.K H1 a us ∧ R (Ite X.K a) H1) ∨ (SqT X.K H1 a us ∧ R (IteT X.K a) H1)) := fun en => by
      rw [en] at P
      rcases xs with _ | ⟨x, _ | _⟩ <;> simp only [numD, ofO] at P
      cases f1 : frzOf x with
      | none => rw [f1] at P; exact P.elim
      | some a =>
        rw [f1] at P
        obtain ⟨v, rfl, rv⟩ := RepL.one q1
        obtain ⟨p, us, rfl, g1, g2⟩ := frz_at rv f1
        exact ⟨p, us, rfl, .inl ⟨g1 _ (Per.refl _), P φ1 H1 _ l1 r1 (drv_enum g1 g2)⟩⟩
    rcases xs with _ | ⟨x, _ | _⟩
    · exact other rfl
    · cases x with
      | tup ys =>
        simp only [numA, ofO] at P
        obtain ⟨v, rfl, rv⟩ := RepL.one q1
        cases rv with
        | tup g1 g2 => exact ⟨_, _, rfl, .inr ⟨SqT.of g1, P φ1 H1 _ l1 r1 (drv_enumT (fun H' p => SqT.of (p.tup _ _ g1)) g2)⟩⟩
      | _ => exact other rfl
    · exact other (by cases x <;> rfl)
end
end Y
end

section
set_option Elab.async false
set_option linter.all false
set_option maxRecDepth 100000
set_option maxHeartbeats 2000000
/-! YMd: dict comprehensions whose keys are tuples; sorted of such a dict. -/
namespace Y
open PySem PySem.Spec PyProof.Rows L2
section
variable {X : Cx} {pins : List (Addr × Obj)} {σ : L2.St} {H : Hp}
/-- the store -/
theorem put_dT {st : Shared} {E : Value → Shared → Prop} {D b : Addr} {kvs : List (List Key × V)} {ks : List Key} {z : V} {r : Value} {Q : Unit → Shared → Prop} (hu : X.A.units + 1 < cLine) (I : Inv X pins σ H st) (eD : H D = some (.dT kvs)) (lt : kvs.length < sizeLine)
    (eb : H b = some (.tup (ks.map kV))) (rz : RelV z r) (hq : ∀ st', Inv X pins σ (upd H D (.dT (putK kvs ks z))) st' → Q () st') : wpAny (model X.prog X.w) X.A (dictSet D (.ref b) r) Q E st := by
  obtain ⟨le, nd, xs, rel, dd⟩ := dt_of I.hok eD
  have sz : xs.length ≤ sizeLine := (Paired.length rel) ▸ le
  refine wpAny_dictSet_heap (hsz := sz) (knd := tupleKind (mixKind X.prog X.w)) (Nat.lt_of_succ_lt hu) (key_of I.hok eb) dd fun h2 ⟨q, es, ep, hq2, x2, x3, x4, _, x5⟩ same => hq _ ?_
  refine d_write I (by rw [eD]; trivial) same ⟨q, hq2⟩ ⟨?_, nd, _, (rel.put ks eb rz).keeps fun c ys ec => ?_, q, es, ep, hq2, x2, x3, x4, x5⟩
  · have := length_putK kvs ks z
    omega
  · rw [upd_ne (ne_of ec eD (fun z => nomatch z))]
    exact ec
/-- what is wished of {k: v for target in iter if ..}, the keys tuples -/
def tDcT (wi : TI) (g : TG) (tt : TT) (tk tv : TE) (vs : List Nat) : TE := fun σ H Q => wi σ H fun J H1 => ∀ D, H1 D = none → ∃ S : Nat → Nat → Hp → Prop, (∃ m, S 0 m (upd H1 D (.dT []))) ∧ ∀ i m Ha, S i m Ha →
  (J.stop i Ha ∧ Q (.ref D) Ha) ∨ (J.go i Ha ∧ ∃ After : Hp → Prop, (∀ Hb, After Hb → ∃ m', m' < m ∧ S (i + 1) m' Hb) ∧ ∀ x Hb, J.yld i Ha x Hb → g x (wipe σ vs) Hb fun τ Hc => wipe τ vs = wipe σ vs ∧ tt τ Hc fun c Hd =>
    if c = true then tk τ Hd fun y He => tv τ He fun z Hf => ∃ b kvs ks, y = .ref b ∧ Hf b = some (.tup (ks.map kV)) ∧ Hf D = some (.dT kvs) ∧ kvs.length < sizeLine ∧ After (upd Hf D (.dT (putK kvs ks z))) else After Hd)
end
section
variable {X : Cx} {kx vx tg iter : Expr} {ifs : List Expr} {scope : Scope} {own : List (Str × Nat)} {pos : Pos} {wi : TI} {g : TG} {tt : TT} {tk tv : TE}
/-- the laps, in the block's own frame -/
theorem dcT_laps {foot : List Addr} {J : It} {it D : Addr} {tn : Nat → Heap → Prop} {vs : List Nat} {σ : L2.St} {R : Result → Shared → Prop} {S : Nat → Nat → Hp → Prop} (hu : X.A.units + 1 < cLine) (hc : X.calm = true) (hx : X.xe = fun _ _ => False) (T : Turn X.prog X.w X.K tg J foot it tn)
    (fpOk : ∀ {τ : L2.St} {Ha : Hp} {st : Shared}, Inv X [] τ Ha st → (∀ b ∈ foot, Ha b = none) → ∀ b ∈ foot, FpOk X [] Ha b) (pg : PG X tg g) (pt : PTs X ifs tt) (pk : PE X kx tk) (pv : PE X vx tv)
    (lap : ∀ i m Ha, S i m Ha → (J.stop i Ha ∧ ∀ st, Inv X [] (wipe σ vs) Ha st → R (.ok .next) st) ∨ (J.go i Ha ∧ ∃ After : Hp → Prop, (∀ Hb, After Hb → ∃ m', m' < m ∧ S (i + 1) m' Hb) ∧ ∀ x Hb, J.yld i Ha x Hb → g x (wipe σ vs) Hb fun τ Hc => wipe τ vs = wipe σ vs ∧ tt τ Hc fun c Hd =>
      if c = true then tk τ Hd fun y He => tv τ He fun z Hf => ∃ b kvs ks, y = .ref b ∧ Hf b = some (.tup (ks.map kV)) ∧ Hf D = some (.dT kvs) ∧ kvs.length < sizeLine ∧ After (upd Hf D (.dT (putK kvs ks z))) else After Hd))
    {m : Nat} {H0 : Hp} {st0 : Shared} (I0 : Inv X [] (wipe σ vs) H0 st0) (t0 : tn 0 st0.heap) (n0 : ∀ b ∈ foot, H0 b = none) (s0 : S 0 m H0) :
    codeAny (model X.prog X.w) X.A (.compLoop (.DictComp kx vx [⟨tg, iter, ifs, 0⟩] scope pos) 0 (.ref it) (.ref D) X.env) R st0 := by
  have cv : ∀ {α : Type} {t : Sem α} {Q : α → Shared → Prop} {st : Shared}, wpAny (model X.prog X.w) X.A t Q X.xe st → wpAny (model X.prog X.w) X.A t Q (fun _ _ => False) st := fun h => by rw [hx] at h; exact h
  refine compLoop_anyD (fun m st => ∃ i Ha, Inv X [] (wipe σ vs) Ha st ∧ tn i st.heap ∧ (∀ b ∈ foot, Ha b = none) ∧ S i m Ha) (fun m st inv => ?_) m ⟨0, H0, I0, t0, n0, s0⟩
  obtain ⟨i, Ha, I, ti, ni, si⟩ := inv
  rcases lap i m Ha si with ⟨stop, done⟩ | ⟨go, After, next, body⟩
  · exact thnF (T.done X rfl rfl rfl hc i [] st _ Ha (fun _ _ => False) I (fpOk I ni) ti stop) fun r st1 ⟨er, I1⟩ => by subst er; exact done st1 I1
  · refine thnF (T.item X rfl rfl rfl hc i [] st _ Ha (fun _ _ => False) I (fpOk I ni) ti go) fun r st1 ⟨u, er, h1⟩ => ?_
    subst er
    refine thnF h1 fun _ st2 ⟨x, Hb, I2, rx, yx, t2, n2⟩ => ?_
    refine thnF (cv (pg.run _ st2 _ Hb x u _ (I2.pinned (fpOk I2 n2) (T.obj _ _ t2)) rx (body x Hb yx))) fun _ st3 ⟨τ, Hc, I3, same, q3⟩ => thnF (cv (pt.run _ st3 τ Hc _ I3 q3)) fun c st4 ⟨Hd, I4, q4⟩ => ?_
    have stay : ∀ b ∈ foot, ∀ {st' : Shared} {H' : Hp}, Inv X ([] ++ pinsAt foot st2.heap) τ H' st' → ∀ o, st2.heap.get? b = some o → st'.heap.get? b = some o ∧ H' b = none := fun b hb st' H' I' o e => by
      have z := I'.pin (b, o) (List.mem_append_right _ (List.mem_append_right _ (mem_pinsAt hb e)))
      exact ⟨z.1, z.2.1⟩
    have close : ∀ {st' : Shared} {H' : Hp}, Inv X ([] ++ pinsAt foot st2.heap) τ H' st' → After H' → ∃ m', m' < m ∧ ∃ i Ha, Inv X [] (wipe σ vs) Ha st' ∧ tn i st'.heap ∧ (∀ b ∈ foot, Ha b = none) ∧ S i m' Ha := by
      intro st' H' I' af
      obtain ⟨m', lt, s'⟩ := next H' af
      refine ⟨m', lt, i + 1, H', (I'.unpinned (pins := [])).weak (by rw [← same, wipe_length]) (fun j v e => ?_), T.keep _ _ _ t2 fun b hb o e => (stay b hb I' o e).1, fun b hb => ?_, s'⟩
      · rw [← same] at e
        exact (wipe_some e).1
      · obtain ⟨o, e, _⟩ := T.obj _ _ t2 b hb
        exact (stay b hb I' o e).2
    cases c with
    | false =>
      rw [if_neg Bool.false_ne_true] at q4 ⊢
      exact close I4 q4
    | true =>
      rw [if_pos rfl] at q4 ⊢
      refine thnF (cv (pk.run _ st4 τ Hd _ I4 q4)) fun z1 st5 ⟨yk, He, I5, r5, q5⟩ => thnF (cv (pv.run _ st5 τ He _ I5 q5)) fun z2 st6 ⟨yv, Hf, I6, r6, b, kvs, ks, ek, eb, eD, lt, af⟩ => ?_
      subst ek
      cases (show z1 = Value.ref b from r5)
      exact put_dT hu I6 eD lt eb r6 fun st7 I7 => close I7 af
theorem dcT_core {pins : List (Addr × Obj)} {s : Shared} {σ : L2.St} {H : Hp} {Q : VK} {pos' : Pos} {use : Option (Value → Sem Unit)} {Qf : Value → Shared → Prop} (hu : X.A.units + 1 < cLine) (hc : X.calm = true) (hN : X.N.Nodup) (I : Inv X pins σ H s) (hi : PI X tg iter wi) (ok : BlkOk X.N X.env.scope scope own)
    (pg : ∀ (s : Shared) (H : Hp) (C : Addr) (cl : List (Str × Addr)) (fp : List Addr), PG (X.blk s H scope (compEnvC scope cl C X.env) fp) tg g) (pt : ∀ (s : Shared) (H : Hp) (C : Addr) (cl : List (Str × Addr)) (fp : List Addr), PTs (X.blk s H scope (compEnvC scope cl C X.env) fp) ifs tt)
    (pk : ∀ (s : Shared) (H : Hp) (C : Addr) (cl : List (Str × Addr)) (fp : List Addr), PE (X.blk s H scope (compEnvC scope cl C X.env) fp) kx tk) (pv : ∀ (s : Shared) (H : Hp) (C : Addr) (cl : List (Str × Addr)) (fp : List Addr), PE (X.blk s H scope (compEnvC scope cl C X.env) fp) vx tv)
    (hs : ∀ x, foldedSetIterable iter X.env x = pure x) (h : tDcT wi g tt tk tv (own.map (·.2)) σ H Q)
    (hRR : ∀ D C s' m H', Inv X pins σ H' s' → Q (.ref D) H' → s'.heap.Ns C m → FpOk X pins H' C → compPost (model X.prog X.w) X.A X.xe use Qf (.ref D) C (.ok .next) s') :
    wpAny (model X.prog X.w) X.A (comprehension (.DictComp kx vx [⟨tg, iter, ifs, 0⟩] scope pos) scope X.env pos' newDict false (eval iter X.env) use) Qf X.xe s := by
  have free : ∀ y ∈ scope.names, y.2 = .free → ∃ c, X.env.cells.lookup y.1 = some c := fun y hy e => (ok.free y hy e).elim (fun k => I.ok.has _ (.inl k)) fun k => I.ok.has _ (.inr k)
  refine wpAny_comprehension_free (use := use) rfl hs (closure_ok free) ok.kind (fun y hy e => by rw [ok.uniq y hy, e]) (thn (hi.run pins s σ H _ I h) fun _ sa ha => thn ha fun _ sb hb => ?_)
  obtain ⟨it, fp, tn, J, Hb, rfl, Ib, T, tb, fb, q⟩ := hb
  refine wpAny_newObj_type (newEnv_comp ?_)
  have nD : Hb sb.heap.objs.size = none := Ib.hok.fresh (Nat.le_refl _)
  obtain ⟨S, ⟨m0, s0⟩, lap⟩ := q _ nD
  generalize eSc : ({ sb with heap := sb.heap.push { cls := .type "dict", data := .dict #[] } } : Shared) = sc
  have eH : sc.heap = sb.heap.push { cls := .type "dict", data := .dict #[] } := by rw [← eSc]
  have Ic : Inv X pins σ (upd Hb sb.heap.objs.size (.dT [])) sc := eSc ▸ Ib.laid (t' := sb.toks) (fun b o e => Heap.get?_push_of_some _ e) (Nat.le_refl _) (dt_empty sb.heap Ib.big)
  have below : ∀ b ∈ fp, b < sb.heap.objs.size := fun b hb => by
    obtain ⟨o, e, _⟩ := T.obj _ _ tb b hb
    exact Heap.lt_size e
  have fc : ∀ b ∈ fp, FpOk X pins (upd Hb sb.heap.objs.size (.dT [])) b ∧ b < sc.heap.objs.size := fun b hb => by
    have l := below b hb
    refine ⟨⟨?_, (fb b hb).2⟩, by rw [eH, Heap.size_push]; exact Nat.lt_succ_of_lt l⟩
    rw [upd_ne (Nat.ne_of_lt l)]
    exact (fb b hb).1
  generalize upd Hb sb.heap.objs.size (.dT []) = Hc at Ic fc s0
  have Id := block_start Ic ok hN fc
  have kg := pg sc Hc sc.heap.objs.size (cellsFrom (sc.heap.objs.size + 1) scope.names (cloFrom X.env.cells scope.names [])) fp
  have kt := pt sc Hc sc.heap.objs.size (cellsFrom (sc.heap.objs.size + 1) scope.names (cloFrom X.env.cells scope.names [])) fp
  have kk := pk sc Hc sc.heap.objs.size (cellsFrom (sc.heap.objs.size + 1) scope.names (cloFrom X.env.cells scope.names [])) fp
  have kv := pv sc Hc sc.heap.objs.size (cellsFrom (sc.heap.objs.size + 1) scope.names (cloFrom X.env.cells scope.names [])) fp
  show codeAny _ _ (.compStart (.DictComp kx vx [⟨tg, iter, ifs, 0⟩] scope pos) 0 (.ref it) (.ref sb.heap.objs.size) (compEnvC scope (cellsFrom (sc.heap.objs.size + 1) scope.names (cloFrom X.env.cells scope.names [])) sc.heap.objs.size X.env)) _ { sc with heap := pushCells (sc.heap.push { cls := .type "dict", data := .dict #[] }) scope.names }
  generalize eEnv : compEnvC scope (cellsFrom (sc.heap.objs.size + 1) scope.names (cloFrom X.env.cells scope.names [])) sc.heap.objs.size X.env = env at Id kg kt kk kv ⊢
  have locals : env.locals = sc.heap.objs.size := by subst eEnv; rfl
  have td0 : tn 0 (pushCells (sc.heap.push { cls := .type "dict", data := .dict #[] }) scope.names) := T.keep _ _ _ tb fun b _ o e => pushCells_keeps _ _ _ _ (Heap.get?_push_of_some _ (eH ▸ Heap.get?_push_of_some _ e))
  have laps := dcT_laps (X := X.blk sc Hc scope env fp) (iter := iter) (pos := pos) (scope := scope) (it := it) (D := sb.heap.objs.size) (S := S) (vs := own.map (·.2)) (σ := σ) (R := compPost (model X.prog X.w) X.A X.xe use Qf (.ref sb.heap.objs.size) sc.heap.objs.size) hu hc rfl T
    (fun {τ Ha st} I' hn b hb => ⟨hn b hb, (I'.ok.exf b hb).1, I'.ok.exfs b hb, .inl hb, fun x c e => (I'.ok.exf b hb).2 x c e, fun p hp => absurd (show p ∈ ([] : List (Addr × Obj)) ++ [] from hp) (by simp)⟩) kg kt kk kv (fun i m Ha si => ?_) Id td0 (fun b hb => (fc b hb).1.1) s0
  · exact codeAny_compStart_dict laps (T.self X.A 0 _ _ _ td0 laps)
  · rcases lap i m Ha si with ⟨stop, qq⟩ | go
    · refine .inl ⟨stop, fun st I6 => ?_⟩
      have I7 : Inv X pins σ Ha st := Ic.call' (ch := fp) I6.os I6.base I6.hok I6.bare fun b hb => ⟨(fc b hb).1.2.2.2.1, (fc b hb).1.2.1, (fc b hb).1.2.2.2.2.1, (fc b hb).1.2.2.2.2.2⟩
      have nC : Ha sc.heap.objs.size = none := locals ▸ I6.free
      obtain ⟨mm, hn, _⟩ := I6.loc
      exact hRR _ _ st mm Ha I7 qq (locals ▸ hn) (Ic.fpOk (Nat.le_refl _) nC)
    · exact .inr go
/-- {k: v for ..}, the keys tuples -/
theorem pe_dcT (hu : X.A.units + 1 < cLine) (hc : X.calm = true) (hN : X.N.Nodup) (hi : PI X tg iter wi) (ok : BlkOk X.N X.env.scope scope own)
    (pg : ∀ (s : Shared) (H : Hp) (C : Addr) (cl : List (Str × Addr)) (fp : List Addr), PG (X.blk s H scope (compEnvC scope cl C X.env) fp) tg g) (pt : ∀ (s : Shared) (H : Hp) (C : Addr) (cl : List (Str × Addr)) (fp : List Addr), PTs (X.blk s H scope (compEnvC scope cl C X.env) fp) ifs tt)
    (pk : ∀ (s : Shared) (H : Hp) (C : Addr) (cl : List (Str × Addr)) (fp : List Addr), PE (X.blk s H scope (compEnvC scope cl C X.env) fp) kx tk) (pv : ∀ (s : Shared) (H : Hp) (C : Addr) (cl : List (Str × Addr)) (fp : List Addr), PE (X.blk s H scope (compEnvC scope cl C X.env) fp) vx tv)
    (hs : ∀ x, foldedSetIterable iter X.env x = pure x := by intro _; rfl) : PE X (.DictComp kx vx [⟨tg, iter, ifs, 0⟩] scope pos) (tDcT wi g tt tk tv (own.map (·.2))) := by
  refine ⟨fun pins s σ H Q I h => ?_⟩
  rw [arm_eval_DictComp]
  refine dcT_core hu hc hN I hi ok pg pt pk pv hs h fun D C s' m H' I' q hn f => ⟨m, hn, fun h'' sb => ?_⟩
  obtain ⟨f0, f1, f2, f3, f4, f5⟩ := f
  exact ⟨.ref D, H', I'.turned (t' := s'.toks) (fun b o hb e => (sb.2 b hb).trans e) f0 f1 f3 f4 f5, rfl, q⟩
/-- name = {k: v for ..} on one line, the name a local; the same with tuples as keys -/
theorem ps_setDc {i : Nat} {y : Str} {py spos : Pos} (hc : X.calm = true) (hN : X.N.Nodup) (hy : X.N[i]? = some y) (hyl : X.env.scope.names.lookup y = some .local)
    (hsw : swapsWith (.DictComp kx vx [⟨tg, iter, ifs, 0⟩] scope pos) (some (.Name y py)) spos.line X.env = pure true) (hi : PI X tg iter wi) (ok : BlkOk X.N X.env.scope scope own)
    (pg : ∀ (s : Shared) (H : Hp) (C : Addr) (cl : List (Str × Addr)) (fp : List Addr), PG (X.blk s H scope (compEnvC scope cl C X.env) fp) tg g) (pt : ∀ (s : Shared) (H : Hp) (C : Addr) (cl : List (Str × Addr)) (fp : List Addr), PTs (X.blk s H scope (compEnvC scope cl C X.env) fp) ifs tt)
    (pk : ∀ (s : Shared) (H : Hp) (C : Addr) (cl : List (Str × Addr)) (fp : List Addr), PE (X.blk s H scope (compEnvC scope cl C X.env) fp) kx tk) (pv : ∀ (s : Shared) (H : Hp) (C : Addr) (cl : List (Str × Addr)) (fp : List Addr), PE (X.blk s H scope (compEnvC scope cl C X.env) fp) vx tv)
    (hs : ∀ x, foldedSetIterable iter X.env x = pure x := by intro _; rfl) :
    PS X (.Assign [.Name y py] (.DictComp kx vx [⟨tg, iter, ifs, 0⟩] scope pos) spos) (tAsg (tDc wi g tt tk tv (own.map (·.2))) (gName i)) := by
  refine ⟨fun pins s σ H D I h => ?_⟩
  rw [exec_Assign_Name_used _ _ _ _ hsw]
  refine wpAny_bind (wpAny_standAt (wpAny_bind ?_))
  show wpAny _ X.A (do let _ ← comprehension (.DictComp kx vx [⟨tg, iter, ifs, 0⟩] scope pos) scope X.env (firstIterPos [⟨tg, iter, ifs, 0⟩] pos) newDict false (eval iter X.env) (some (assign (.Name y py) X.env))) _ _ s
  have h : tDc wi g tt tk tv (own.map (·.2)) σ H (fun x H1 => gName i x σ H1 D.nx) := h
  refine wpAny_bind (thn (dc_core (Qf := fun _ s' => SP X pins D .next s') hc hN I hi ok pg pt pk pv hs h fun L C s' m H' I' q hn f => ?_) fun _ s' hq => wpAny_pure (wpAny_pure hq))
  show wpAny _ _ (assign (.Name y py) X.env (.ref L)) _ _ _
  refine wpAny_assign_Name (store_ok2 (v := V.ref L) I' hN hy (.inl hyl) rfl (fun s2 I2 ⟨a, sb, ha⟩ => ?_) (.inr hyl))
  obtain ⟨f0, f1, f2, f3, f4, f5⟩ := f
  have haC : C ≠ a := by
    rcases ha with z | z
    · rw [z]; exact f1
    · exact fun e => f4 y a z e.symm
  refine ⟨m, hn.sameBut sb haC, fun h3 sb3 => ?_⟩
  exact ⟨_, H', I2.turned (t' := s2.toks) (fun b o hb e => (sb3.2 b hb).trans e) f0 f1 f3 f4 f5, q⟩
theorem ps_setDcT {i : Nat} {y : Str} {py spos : Pos} (hu : X.A.units + 1 < cLine) (hc : X.calm = true) (hN : X.N.Nodup) (hy : X.N[i]? = some y) (hyl : X.env.scope.names.lookup y = some .local)
    (hsw : swapsWith (.DictComp kx vx [⟨tg, iter, ifs, 0⟩] scope pos) (some (.Name y py)) spos.line X.env = pure true) (hi : PI X tg iter wi) (ok : BlkOk X.N X.env.scope scope own)
    (pg : ∀ (s : Shared) (H : Hp) (C : Addr) (cl : List (Str × Addr)) (fp : List Addr), PG (X.blk s H scope (compEnvC scope cl C X.env) fp) tg g) (pt : ∀ (s : Shared) (H : Hp) (C : Addr) (cl : List (Str × Addr)) (fp : List Addr), PTs (X.blk s H scope (compEnvC scope cl C X.env) fp) ifs tt)
    (pk : ∀ (s : Shared) (H : Hp) (C : Addr) (cl : List (Str × Addr)) (fp : List Addr), PE (X.blk s H scope (compEnvC scope cl C X.env) fp) kx tk) (pv : ∀ (s : Shared) (H : Hp) (C : Addr) (cl : List (Str × Addr)) (fp : List Addr), PE (X.blk s H scope (compEnvC scope cl C X.env) fp) vx tv)
    (hs : ∀ x, foldedSetIterable iter X.env x = pure x := by intro _; rfl) :
    PS X (.Assign [.Name y py] (.DictComp kx vx [⟨tg, iter, ifs, 0⟩] scope pos) spos) (tAsg (tDcT wi g tt tk tv (own.map (·.2))) (gName i)) := by
  refine ⟨fun pins s σ H D I h => ?_⟩
  rw [exec_Assign_Name_used _ _ _ _ hsw]
  refine wpAny_bind (wpAny_standAt (wpAny_bind ?_))
  show wpAny _ X.A (do let _ ← comprehension (.DictComp kx vx [⟨tg, iter, ifs, 0⟩] scope pos) scope X.env (firstIterPos [⟨tg, iter, ifs, 0⟩] pos) newDict false (eval iter X.env) (some (assign (.Name y py) X.env))) _ _ s
  have h : tDcT wi g tt tk tv (own.map (·.2)) σ H (fun x H1 => gName i x σ H1 D.nx) := h
  refine wpAny_bind (thn (dcT_core (Qf := fun _ s' => SP X pins D .next s') hu hc hN I hi ok pg pt pk pv hs h fun L C s' m H' I' q hn f => ?_) fun _ s' hq => wpAny_pure (wpAny_pure hq))
  show wpAny _ _ (assign (.Name y py) X.env (.ref L)) _ _ _
  refine wpAny_assign_Name (store_ok2 (v := V.ref L) I' hN hy (.inl hyl) rfl (fun s2 I2 ⟨a, sb, ha⟩ => ?_) (.inr hyl))
  obtain ⟨f0, f1, f2, f3, f4, f5⟩ := f
  have haC : C ≠ a := by
    rcases ha with z | z
    · rw [z]; exact f1
    · exact fun e => f4 y a z e.symm
  refine ⟨m, hn.sameBut sb haC, fun h3 sb3 => ?_⟩
  exact ⟨_, H', I2.turned (t' := s2.toks) (fun b o hb e => (sb3.2 b hb).trans e) f0 f1 f3 f4 f5, q⟩
end
end Y
end

section
set_option Elab.async false
set_option linter.all false
set_option maxRecDepth 100000
set_option maxHeartbeats 2000000
/-! YMs: sorted of a dict whose keys are tuples of ints; the rule of its comprehension over Y. -/
namespace Y
open PySem PySem.Spec PyProof.Rows L2 PySem.Calls PyProof.V
def keyD : Key → D
  | .inl i => .int i
  | .inr x => .str x
def keysD (h : Hm) (d : D) : Option (List D) := (dtuOf h d).map fun kvs => kvs.map fun kv => .tup (kv.1.map keyD)
/-- sorted(x): a list, or a dict with tuples as keys -/
def mSortA (h : Hm) : List D → Option (List D)
  | [d] => match keysD h d with
    | some ks => sortD ks
    | none => mSorted h [d]
  | xs => mSorted h xs
section
variable {X : Cx} {k : Nat}
theorem rep_keys {K : PySem.W.Frag} {φ : List Addr} {H : Hp} : ∀ ks : List Key, RepL K φ H (ks.map keyD) (ks.map kV)
  | [] => .nil
  | .inl i :: ks => .cons (.int i) (rep_keys ks)
  | .inr x :: ks => .cons (.str x) (rep_keys ks)
/-- sorted(d), by what the keys stand for -/
theorem sort_src (c0 : Cs k X) {β : Type} {enc : β → PyData} {toD : β → D} (hpy : ∀ h b, py h (toD b) = some (enc b)) {bs : List β} (hal : PySem.W.AllAlike (bs.map enc)) (hk : PySem.W.Sortable (bs.map enc)) (hd : ∀ b ∈ bs, (enc b).depth ≤ 64)
    {φ : List Addr} {H : Hp} {a : Addr} {kvs : List (List Key × V)} (ha : H a = some (.dT kvs)) (hb : bs.map toD = kvs.map fun kv => .tup (kv.1.map keyD)) :
    CallR X (.builtin "sorted") (fun us H' Q => us = [.ref a] ∧ H' = H ∧ ∀ p vs', H p = none → RepL X.K φ H ((bs.mergeSort (PySem.W.dataLe false enc)).map toD) vs' → Q (.ref p) (upd H p (.lst vs'))) := by
  intro pins s σ H1 xs us Q I r1 hh
  obtain ⟨rfl, rfl, q⟩ := hh
  rw [Vals.ref1 r1]
  obtain ⟨z, hs, ks, pr, o, es, ep, ho, hx, hdt, he, _⟩ := (show ObjOk X.prog X.w H1 s.heap a (.dT kvs) from I.hok a _ ha)
  have l1 : es.size = ks.length := size_of_entries he
  have l2 : kvs.length = ks.length := Paired.length pr
  have rep : ∀ {kvs : List (List Key × V)} {ks : List (List Key × Addr × Value)} {bs : List β}, Paired (fun (p : List Key × V) (q : List Key × Addr × Value) => p.1 = q.1 ∧ H1 q.2.1 = some (.tup (p.1.map kV)) ∧ RelV p.2 q.2.2) kvs ks → (bs.map toD = kvs.map fun kv => .tup (kv.1.map keyD)) →
      PySem.W.EachIs (fun u b => ∃ v, RelV v u ∧ Rep X.K φ H1 (toD b) v) (ks.map fun x => Value.ref x.2.1) bs := by
    intro kvs ks bs r
    induction r generalizing bs with
    | nil =>
      intro e
      cases bs with
      | nil => exact .nil
      | cons b bs => cases e
    | @cons p q kvs ks h1 _ ih =>
      intro e
      cases bs with
      | nil => cases e
      | cons b bs =>
        simp only [List.map_cons, List.cons.injEq] at e
        refine .cons ⟨.ref q.2.1, rfl, ?_⟩ (ih e.2)
        rw [e.1]
        exact .tup h1.2.1 (rep_keys _)
  refine call_function_entry kind_sorted plain_sorted entry_sorted (args_sorted1 _) ?_
  unfold Builtin.«sorted»
  refine wpAny_bind (m := checkCount "sorted" 1 1 _) (wpAny_pure (wpAny_bind (PySem.W.kdu_collect (A := X.A.in1) (kdl_raw hs hx hdt) (I.ok.hd c0.calm) ho (by omega) fun h' tk acc keep items => ?_)))
  have ea : acc.toList = ks.map fun x => Value.ref x.2.1 := by
    have hl : acc.toList.length = ks.length := by rw [Array.length_toList, items.1]; exact l1
    apply List.ext_getElem?
    intro j
    rw [List.getElem?_map]
    by_cases lt : j < ks.length
    · have hj : acc.toList[j]? = some acc.toList[j] := List.getElem?_eq_getElem (by omega)
      obtain ⟨en, hen, hv⟩ := items.2 j _ (by rw [← Array.getElem?_toList]; exact hj)
      have qe := entry_at he j
      rw [hen, List.getElem?_eq_getElem lt] at qe
      rw [hj, hv, List.getElem?_eq_getElem lt, show en = entryOfKey (tupleKind (mixKind X.prog X.w)) ks[j] from Option.some.inj qe]
      rfl
    · rw [List.getElem?_eq_none (by omega), List.getElem?_eq_none (by omega)]
      rfl
  have e0 := rep pr hb
  rw [← ea] at e0
  have I1 : Inv X pins σ H1 { s with heap := h', toks := tk } := I.kept keep
  have hlen : bs.length ≤ sizeLine := by
    have := congrArg List.length hb
    simp only [List.length_map] at this
    omega
  have hacc : acc.toList.length = bs.length := by
    have := congrArg List.length hb
    simp only [List.length_map] at this
    rw [ea, List.length_map]
    omega
  refine wpAny_bind (wpAny_newList ?_ (by rw [hacc]; exact hlen))
  have ho2 : (h'.push { cls := .type "list", data := .seq acc.toList.toArray }).get? h'.objs.size = some (seqObj "list" acc.toList.toArray 0) := Heap.get?_push_size _ rfl
  have kp2 : ∀ b u, h'.get? b = some u → (h'.push { cls := .type "list", data := .seq acc.toList.toArray }).get? b = some u := fun b u e => Heap.get?_push_of_some _ e
  have I2 : Inv X pins σ H1 { s with heap := h'.push { cls := .type "list", data := .seq acc.toList.toArray }, toks := tk } := I1.kept (t' := tk) kp2
  have er : PySem.W.EachIs (fun u b => ∃ as, Reads (h'.push { cls := .type "list", data := .seq acc.toList.toArray }) u (enc b) as ∧ h'.objs.size ∉ as) acc.toList bs := e0.mono fun u b ⟨v, r, q⟩ => by
    obtain ⟨as, rd⟩ := Dp.reads I1 _ _ _ (Rep.dp (toD b) v (enc b) (hpy [] b) q) r
    refine ⟨as, PyProof.Rows.Reads.keeps kp2 rd, fun m => ?_⟩
    obtain ⟨o, e⟩ := PyProof.On.reads_mem_get rd _ m
    exact absurd (Heap.lt_size e) (Nat.lt_irrefl _)
  have hu := c0.room.un
  have sorted := PySem.W.list_sort_data (prog := X.prog) (w := X.w) (A := X.A.in1) (E := X.xe) (s := { s with heap := h'.push { cls := .type "list", data := .seq acc.toList.toArray }, toks := tk }) (Q := fun _ s' => EP X pins σ Q (.ref h'.objs.size) s') ho2 e0 er hal hk hlen
    (fun b hb => by have := hd b hb; show X.A.units + 1 + 1 + (enc b).depth < cLine; omega) fun out lo eo => ?_
  · exact wpAny_bind (wpAny_holding (wpAny_mono sorted (fun _ s' x => wpAny_pure ⟨_, rfl, x⟩) fun _ _ e => e))
  · obtain ⟨ep2, heq⟩ := PyProof.Rows.sortedHeap_at (vs := acc.toList) (out := out.toArray) ho2
    have back : ∀ {out : List Value} {bs : List β}, PySem.W.EachIs (fun u b => ∃ v, RelV v u ∧ Rep X.K φ H1 (toD b) v) out bs → ∃ vs', Vals vs' out ∧ RepL X.K φ H1 (bs.map toD) vs' := by
      intro out bs r
      induction r with
      | nil => exact ⟨[], .nil, .nil⟩
      | cons h1 _ ih =>
        obtain ⟨v, r1, r2⟩ := h1
        obtain ⟨vs', r3, r4⟩ := ih
        exact ⟨v :: vs', .cons r1 r3, .cons r2 r4⟩
    obtain ⟨vs', v1, v2⟩ := back eo
    have hl2 : vs'.length ≤ sizeLine := by rw [v1.length, lo]; exact hlen
    refine ⟨.ref _, upd H1 h'.objs.size (.lst vs'), I1.laid (t' := tk) (fun b u e => ?_) (Nat.le_refl _) ⟨hl2, out, ep2, v1, by simpa using heq⟩, rfl, q _ _ (I1.hok.fresh (Nat.le_refl _)) v2⟩
    exact (PyProof.Rows.sortedHeap_old (Nat.ne_of_lt (Heap.lt_size e)) (Heap.lt_size (kp2 b u e))).trans (kp2 b u e)
theorem c_sortA (c0 : Cs k X) : CaL X (.builtin "sorted") mSortA := fun pins s σ H vs us Q I r w => by
  obtain ⟨cl, We, φ, hh, xs, R, q, P⟩ := w
  have other : mSortA hh xs = mSorted hh xs → wpAny (model X.prog X.w) X.A (call (.builtin "sorted") us) (EP X pins σ Q) X.xe s := fun e => by
    rw [e] at P
    exact c_sorted c0 pins s σ H vs us Q I r ⟨cl, We, φ, hh, xs, R, q, P⟩
  rcases xs with _ | ⟨d, _ | _⟩
  · exact other rfl
  · cases ek : keysD hh d with
    | none => exact other (by simp only [mSortA, ek])
    | some ks =>
      simp only [mSortA, ek] at P
      unfold keysD at ek
      obtain ⟨kvs, e1, e2⟩ := Option.map_eq_some_iff.mp ek
      obtain ⟨v, rfl, rd⟩ := q.one
      cases rd <;> simp only [dtuOf] at e1 <;> try (cases e1; done)
      rename_i n a hk
      obtain ⟨ob, h3, h4⟩ := R.at hk
      rw [h3] at e1
      cases h4 with
      | lst _ _ => cases e1
      | dct _ _ => cases e1
      | @dtu kvs' vs' hd rr =>
        simp only [Option.some.injEq] at e1
        subst e1
        have ev : ks = vs'.map fun kv => D.tup (kv.1.map keyD) := by
          rw [← e2]
          have : ∀ {xs : List (List Key × D)} {ys : List (List Key × V)}, RepK X.K φ H xs ys → (xs.map fun kv => D.tup (kv.1.map keyD)) = ys.map fun kv => D.tup (kv.1.map keyD) := fun r => by
            induction r with
            | nil => rfl
            | cons h _ ih => simp [h.1, ih]
          exact this rr
        have fin : ∀ z, sortD ks = some z → ∀ p vs'', H p = none → RepL X.K φ H z vs'' → Q (.ref p) (upd H p (.lst vs'')) := fun z ez p vs'' hp hr => by
          rw [ez] at P
          exact P φ _ _ (Lat.new hp) (R.new hp) (fresh_new R hp hr)
        cases h1 : intsOf ks with
        | some ns =>
          have em := intsOf_map h1
          cases ks with
          | nil =>
            cases ns with
            | cons _ _ => cases em
            | nil =>
              have g := sort_src c0 (φ := φ) (enc := PyData.int) (toD := D.int) (fun _ _ => rfl) (bs := []) (PySem.W.AllAlike.of fun _ _ => rfl) (PySem.W.Sortable.others fun _ => ⟨by simp, by simp⟩) (fun _ h => by cases h) hd (by rw [← ev]; rfl)
              refine g pins s σ H _ us Q I r ⟨rfl, rfl, fun p vs'' hp hr => fin [] (by simp [sortD, intsOf, intsL, isort]) p vs'' hp ?_⟩
              simpa using hr
          | cons x ks =>
            cases vs' with
            | nil => cases ev
            | cons y ys =>
              simp only [List.map_cons, List.cons.injEq] at ev
              rw [ev.1] at h1
              simp [intsOf] at h1
        | none =>
          cases h2 : rowsOf ks with
          | none =>
            simp only [sortD, h1, h2, ofO] at P
            exact P.elim
          | some rs =>
            obtain ⟨em, hne⟩ := rowsOf_map h2
            have g := sort_src c0 (φ := φ) (enc := fun r : List Int => PyData.tuple (r.map .int)) (toD := rowD) (fun h b => py_row h b) (bs := rs)
              (PySem.W.AllAlike.of fun b b' => by simp only [PySem.W.alike]; exact PySem.W.alike_ints b b')
              (.inl fun d hd => by
                obtain ⟨b, hb, rfl⟩ := List.mem_map.mp hd
                cases b with
                | nil => exact absurd rfl (hne _ hb)
                | cons x r => exact ⟨_, _, rfl⟩) (fun b _ => by simp [PyData.depth, PySem.W.depth_ints]) hd (by rw [← em, ev])
            rw [dataLe_tups (fun b => b), rowsL_eq] at g
            exact g pins s σ H _ us Q I r ⟨rfl, rfl, fun p vs'' hp hr => fin _ (by simp only [sortD, h1, h2]; try rfl) p vs'' hp hr⟩
  · exact other rfl
end
/-! ### {k: v for ..}, the keys tuples -/
def dcT (g : Gv) (c : Tv) (k v : Ev) (σ : Sl) : List D → List (List Key × D) → Hm → Rs (List (List Key × D))
  | [], a, h => .ok a h
  | d :: ds, a, h => match g d σ with
    | none => .bad
    | some σ1 => (c σ1 h).bindN fun t h1 => if t = true then (k σ1 h1).bindN fun y h2 => (v σ1 h2).bindN fun z h3 => match tkOf y with
      | some ky => if a.length < line then dcT g c k v σ ds (setK a ky z) h3 else .bad
      | none => .bad else dcT g c k v σ ds a h1
def eDcT (it : Iv) (g : Gv) (c : Tv) (k v : Ev) (vs : List Nat) : Ev := fun σ h => (it σ h).bind fun ds h1 => (dcT g c k v (unset σ vs) ds [] h1).bind fun a h2 => .ok (.loc h2.length) (h2 ++ [.dtu a])
theorem dcT_ne {g : Gv} {t : Tv} {k v : Ev} {σ : Sl} : ∀ {ds : List D} {a : List (List Key × D)} {h : Hm} {x : Exn} {h2 : Hm}, dcT g t k v σ ds a h ≠ .ex x h2
  | [], a, h, x, h2, q => by simp [dcT] at q
  | d :: ds, a, h, x, h2, q => by
    simp only [dcT] at q
    split at q
    · cases q
    · obtain ⟨c, h3, _, q⟩ := bindN_ex q
      split at q
      · obtain ⟨y, h4, _, q⟩ := bindN_ex q
        obtain ⟨z, h5, _, q⟩ := bindN_ex q
        split at q
        · split at q
          · exact dcT_ne q
          · cases q
        · cases q
      · exact dcT_ne q
section
variable {X : Cx} {cl : Nat → Addr} {W : WX} {kx vx tg iter : Expr} {ifs : List Expr} {it : Iv} {g : Gv} {is : List Nat} {t : Tv} {fk fv : Ev} {scope : Scope} {own : List (Str × Nat)} {pos : Pos}
theorem dcT_go (his : ∀ i ∈ is, i ∈ own.map (·.2)) {σ : L2.St} {H : Hp} {Q : VK} (p : tG X.K cl W (RR X.K) (eDcT it g t fk fv (own.map (·.2))) σ H Q) :
    tDcT (tI X.K cl W it) (tGv X.K g is) (tG X.K cl W0 RBool t) (tG X.K cl W0 (RR X.K) fk) (tG X.K cl W0 (RR X.K) fv) (own.map (·.2)) σ H Q := by
  obtain ⟨φ, st, h0, S, R0, P⟩ := p
  refine ⟨φ, st, h0, S, R0, ?_⟩
  unfold eDcT at P
  cases e : it st h0 with
  | bad => simp only [e, Rs.bind] at P; exact P
  | ex ex1 h1 => simp only [e, Rs.bind] at P; exact P
  | ok ds h1 =>
    simp only [e, Rs.bind] at P
    intro φ1 H1 J l1 r1 dv D hD
    cases e1 : dcT g t fk fv (unset st (own.map (·.2))) ds [] h1 with
    | bad => rw [e1] at P; exact P.elim
    | ex ex1 h2 => exact (dcT_ne e1).elim
    | ok res hf =>
      rw [e1] at P
      simp only at P
      have nD1 : D ∉ φ1 := r1.notin hD
      have nD0 : H D = none := l1.gone nD1 hD
      refine ⟨fun i m H2 => m = ds.length - i ∧ i ≤ ds.length ∧ ∃ φ2 h2 acc accV, Lat φ1 H1 φ2 H2 ∧ HR X.K φ2 H2 h2 ∧ D ∉ φ2 ∧ H2 D = some (.dT accV) ∧ RepK X.K φ2 H2 acc accV ∧ dcT g t fk fv (unset st (own.map (·.2))) (ds.drop i) acc h2 = .ok res hf,
        ⟨_, rfl, Nat.zero_le _, φ1, h1, [], [], Lat.new hD, r1.new hD, nD1, upd_same, .nil, e1⟩, ?_⟩
      rintro i m H2 ⟨rfl, hi, φ2, h2, acc, accV, l2, r2, nD2, eD, ra, ec⟩
      obtain ⟨d1, d2⟩ := dv φ2 H2 h2 l2.wk r2
      by_cases lt : i < ds.length
      · obtain ⟨go, yl⟩ := d1 i ds[i] (List.getElem?_eq_getElem lt)
        refine .inr ⟨go, fun H' => ∃ φ2 h2 acc accV, Lat φ1 H1 φ2 H' ∧ HR X.K φ2 H' h2 ∧ D ∉ φ2 ∧ H' D = some (.dT accV) ∧ RepK X.K φ2 H' acc accV ∧ dcT g t fk fv (unset st (own.map (·.2))) (ds.drop (i + 1)) acc h2 = .ok res hf,
          fun H' n => ⟨ds.length - (i + 1), by omega, rfl, lt, n⟩, fun x H3 y => ?_⟩
        obtain ⟨l3, r3, rx⟩ := yl x H3 y
        rw [List.drop_eq_getElem_cons lt] at ec
        simp only [dcT] at ec
        cases e2 : g ds[i] (unset st (own.map (·.2))) with
        | none => rw [e2] at ec; cases ec
        | some st3 =>
          rw [e2] at ec
          have L3 := l2.trans l3
          have S3 : SR X.K φ2 H3 (unset st (own.map (·.2))) (wipe σ (own.map (·.2))) := (S.mono (l1.trans L3)).unset _
          refine ⟨φ2, _, ds[i], st3, S3, rx, e2, fun τ S4 ch => ⟨by rw [ch.wipe his, wipe_wipe], φ2, st3, h2, S4, r3, ?_⟩⟩
          simp only at ec
          obtain ⟨c1, h4, e3, ec⟩ := bindN_ok ec
          rw [e3]
          intro φ4 H4 c2 l4 r4 ecc
          cases (show c1 = c2 from ecc)
          have l34 := l3.trans l4
          have eD4 : H4 D = some (.dT accV) := l34.keep D _ eD nD2
          have nD4 : D ∉ φ4 := l34.out eD nD2
          have ra4 := ra.mono l34.pre l34.per
          cases c1 with
          | false =>
            rw [if_neg Bool.false_ne_true]
            rw [if_neg Bool.false_ne_true] at ec
            exact ⟨φ4, h4, acc, accV, L3.trans l4, r4, nD4, eD4, ra4, ec⟩
          | true =>
            rw [if_pos rfl]
            rw [if_pos rfl] at ec
            obtain ⟨y1, h5, e5, ec⟩ := bindN_ok ec
            obtain ⟨z1, h6, e6, ec⟩ := bindN_ok ec
            refine ⟨φ4, st3, h4, S4.mono l4, r4, ?_⟩
            rw [e5]
            intro φ5 H5 yv l5 r5 ry
            refine ⟨φ5, st3, h5, (S4.mono l4).mono l5, r5, ?_⟩
            rw [e6]
            intro φ6 H6 zv l6 r6 rz
            have l56 := l5.trans l6
            have eD6 : H6 D = some (.dT accV) := l56.keep D _ eD4 nD4
            have nD6 : D ∉ φ6 := l56.out eD4 nD4
            have ra6 := ra4.mono l56.pre l56.per
            split at ec
            · rename_i ky ek
              split at ec
              · rename_i hl
                obtain ⟨b, rfl, eb⟩ := tk_of_rep (Rep.mono l6.pre l6.per _ _ ry) ek
                refine ⟨b, accV, ky, rfl, eb, eD6, by rw [← Paired.length ra6, ← line_eq]; exact hl, φ6, h6, _, _, Lat.tmp ((L3.trans l4).trans l56) hD eD6 rfl, r6.out nD6 eD6 rfl, nD6, upd_same, ?_, ec⟩
                exact (ra6.set ky rz).mono (List.prefix_refl _) (Per.wr eD6 rfl)
              · cases ec
            · cases ec
      · have ei : i = ds.length := by omega
        subst ei
        rw [List.drop_length] at ec
        simp only [dcT, Rs.ok.injEq] at ec
        obtain ⟨rfl, rfl⟩ := ec
        have L := l1.trans l2
        refine .inl ⟨d2, P (φ2 ++ [D]) _ _ ⟨L.pre.trans (List.prefix_append _ _), L.per, L.keep, fun b m => ?_⟩ (r2.add nD2 (.dtu eD (ra.mono (List.prefix_append _ _) (Per.refl _)))) (.loc ?_)⟩
        · rcases List.mem_append.mp m with m | m
          · exact L.fresh b m
          · simp at m
            subst m
            exact .inr nD0
        · rw [List.getElem?_append_right (by rw [r2.len]; exact Nat.le_refl _)]
          simp [r2.len]
theorem s_dcT {k : Nat} (c0 : Cs k X) (hi : SI X cl W tg iter it) (ok : BlkOk X.N X.env.scope scope own) (his : ∀ i ∈ is, i ∈ own.map (·.2))
    (hg : ∀ (s : Shared) (H : Hp) (C : Addr) (cc : List (Str × Addr)) (fp : List Addr), SG (X.blk s H scope (compEnvC scope cc C X.env) fp) tg g is)
    (ht : ∀ (s : Shared) (H : Hp) (C : Addr) (cc : List (Str × Addr)) (fp : List Addr), STs (X.blk s H scope (compEnvC scope cc C X.env) fp) cl W0 ifs t)
    (hk : ∀ (s : Shared) (H : Hp) (C : Addr) (cc : List (Str × Addr)) (fp : List Addr), SE (X.blk s H scope (compEnvC scope cc C X.env) fp) cl W0 kx fk)
    (he : ∀ (s : Shared) (H : Hp) (C : Addr) (cc : List (Str × Addr)) (fp : List Addr), SE (X.blk s H scope (compEnvC scope cc C X.env) fp) cl W0 vx fv) (hs : ∀ x, foldedSetIterable iter X.env x = pure x := by intro _; rfl) :
    SE X cl W (.DictComp kx vx [⟨tg, iter, ifs, 0⟩] scope pos) (eDcT it g t fk fv (own.map (·.2))) := PE.of (pe_dcT c0.hu c0.calm c0.nd hi ok hg ht hk he hs) fun σ H Q p => dcT_go his p
theorem s_setDc {k i : Nat} {y : Str} {py spos : Pos} (c0 : Cs k X) (hy : X.N[i]? = some y) (hyl : X.env.scope.names.lookup y = some .local)
    (hsw : swapsWith (.DictComp kx vx [⟨tg, iter, ifs, 0⟩] scope pos) (some (.Name y py)) spos.line X.env = pure true) (hi : SI X cl W tg iter it) (ok : BlkOk X.N X.env.scope scope own) (his : ∀ i ∈ is, i ∈ own.map (·.2))
    (hg : ∀ (s : Shared) (H : Hp) (C : Addr) (cc : List (Str × Addr)) (fp : List Addr), SG (X.blk s H scope (compEnvC scope cc C X.env) fp) tg g is)
    (ht : ∀ (s : Shared) (H : Hp) (C : Addr) (cc : List (Str × Addr)) (fp : List Addr), STs (X.blk s H scope (compEnvC scope cc C X.env) fp) cl W0 ifs t)
    (hk : ∀ (s : Shared) (H : Hp) (C : Addr) (cc : List (Str × Addr)) (fp : List Addr), SE (X.blk s H scope (compEnvC scope cc C X.env) fp) cl W0 kx fk)
    (he : ∀ (s : Shared) (H : Hp) (C : Addr) (cc : List (Str × Addr)) (fp : List Addr), SE (X.blk s H scope (compEnvC scope cc C X.env) fp) cl W0 vx fv) (hs : ∀ x, foldedSetIterable iter X.env x = pure x := by intro _; rfl) :
    SS X cl W (.Assign [.Name y py] (.DictComp kx vx [⟨tg, iter, ifs, 0⟩] scope pos) spos) (sAsg (gN i) (eDc it g t fk fv (own.map (·.2)))) := PS.of (ps_setDc c0.calm c0.nd hy hyl hsw hi ok hg ht hk he hs) fun D σ H p =>
  dc_go his (Q := fun x H1 => gName i x σ H1 D.nx) (seqO (Rel := RR X.K) (k := fun σ d h1 => outO (gN i d σ) h1) p fun φ0 st φ H1 h1 x w l S R r P => P _ _ l φ H1 _ (Lat.refl _ _) R (S.set i r))
theorem s_setDcT {k i : Nat} {y : Str} {py spos : Pos} (c0 : Cs k X) (hy : X.N[i]? = some y) (hyl : X.env.scope.names.lookup y = some .local)
    (hsw : swapsWith (.DictComp kx vx [⟨tg, iter, ifs, 0⟩] scope pos) (some (.Name y py)) spos.line X.env = pure true) (hi : SI X cl W tg iter it) (ok : BlkOk X.N X.env.scope scope own) (his : ∀ i ∈ is, i ∈ own.map (·.2))
    (hg : ∀ (s : Shared) (H : Hp) (C : Addr) (cc : List (Str × Addr)) (fp : List Addr), SG (X.blk s H scope (compEnvC scope cc C X.env) fp) tg g is)
    (ht : ∀ (s : Shared) (H : Hp) (C : Addr) (cc : List (Str × Addr)) (fp : List Addr), STs (X.blk s H scope (compEnvC scope cc C X.env) fp) cl W0 ifs t)
    (hk : ∀ (s : Shared) (H : Hp) (C : Addr) (cc : List (Str × Addr)) (fp : List Addr), SE (X.blk s H scope (compEnvC scope cc C X.env) fp) cl W0 kx fk)
    (he : ∀ (s : Shared) (H : Hp) (C : Addr) (cc : List (Str × Addr)) (fp : List Addr), SE (X.blk s H scope (compEnvC scope cc C X.env) fp) cl W0 vx fv) (hs : ∀ x, foldedSetIterable iter X.env x = pure x := by intro _; rfl) :
    SS X cl W (.Assign [.Name y py] (.DictComp kx vx [⟨tg, iter, ifs, 0⟩] scope pos) spos) (sAsg (gN i) (eDcT it g t fk fv (own.map (·.2)))) := PS.of (ps_setDcT c0.hu c0.calm c0.nd hy hyl hsw hi ok hg ht hk he hs) fun D σ H p =>
  dcT_go his (Q := fun x H1 => gName i x σ H1 D.nx) (seqO (Rel := RR X.K) (k := fun σ d h1 => outO (gN i d σ) h1) p fun φ0 st φ H1 h1 x w l S R r P => P _ _ l φ H1 _ (Lat.refl _ _) R (S.set i r))
end
end Y
end

section
set_option Elab.async false
set_option linter.all false
set_option maxRecDepth 100000
set_option maxHeartbeats 2000000
/-! YMw: a, b = a list. -/
namespace Y
open PySem PySem.Spec PyProof.Rows L2
def gTL (gs : List Gv) : Gv := fun d σ => match d with
  | .fl xs => gTs gs xs σ
  | .sq xs => gTs gs xs σ
  | _ => none
section
variable {X : Cx} {pos : Pos}
theorem g_unl {es : List Expr} {n : Nat} {gs : List Gv} {is : List Nat} (hc : X.calm = true) (h : PGs X es (tGvs X.K gs is)) (hn : (assignEach es X.env).length = gs.length := by rfl) (hst : (assignEach es X.env).findIdx? (·.1) = none := by rfl) :
    SG X (.Tuple es n pos) (gTL gs) is := PG.of (pg_unl hc h hn hst) fun v σ H Q ⟨φ, st, d, st1, S, r, e, q⟩ => by
  cases r with
  | fl hq rr => exact ⟨_, _, rfl, .inl (.inr ⟨_, hq⟩), by rw [← rr.length]; exact gTs_len (show gTs gs _ st = some st1 from e), φ, st, _, st1, S, rr, e, q⟩
  | sq hq rr => exact ⟨_, _, rfl, hq.sq, by rw [← rr.length]; exact gTs_len (show gTs gs _ st = some st1 from e), φ, st, _, st1, S, rr, e, q⟩
  | _ => cases (show (none : Option Sl) = some st1 from e)
end
end Y
end

section
set_option Elab.async false
set_option linter.all false
set_option maxRecDepth 100000
/-! L: the bodies of the defs, law-free. -/
namespace L25
open PySem Y
def b_u_law_pen_l1 : Sv := sAsg (gN 1) (e2 oMod (eB bInt (aC (e2 oAdd (e2 oMul (eV 1) (eC (.int 131))) (eV 2)) (aN))) (eC (.int 1000000579)))
def b_u_law_pen_2 : Sv := sRet (eDct (pC (eC (.str "cells")) (eFrz (lB mList (aC (eV 0) (aN)))) (pC (eC (.str "at")) (eC (.int 0)) (pC (eC (.str "digits")) (eC (.int 0)) (pC (eC (.str "count")) (eC (.int 0)) (pC (eC (.str "fold")) (eV 1) (pN)))))))
def b_u_law_pen_1 : Sv := sSeq (sFor (iA (eV 0)) (gN 2) (b_u_law_pen_l1))
    (b_u_law_pen_2)
def b_u_law_pen : Sv := sSeq (sAsg (gN 1) (eC (.int 89)))
    (b_u_law_pen_1)
def d_u_law_pen : Fn := fnK 3 b_u_law_pen
def b_near_lots_l1_1 : Sv := sApp (e2 oIx (eV 2) (eV 4)) (eV 3)
def b_near_lots_l1 : Sv := sSeq (sApp (e2 oIx (eV 2) (eV 3)) (eV 4))
    (b_near_lots_l1_1)
def b_near_lots_2 : Sv := sRet (eB bTuple (aC (eFrz (lComp (iA (eV 2)) (gN 5) (tYes) (eB bTuple (aC (eFrz (lB mSortA (aC (eV 5) (aN)))) (aN))) [5])) (aN)))
def b_near_lots_1 : Sv := sSeq (sFor (iA (eV 1)) (gT [gN 3, gN 4]) (b_near_lots_l1))
    (b_near_lots_2)
def b_near_lots : Sv := sSeq (sAsg (gN 2) (eFrz (lComp (iR1 (aC (eV 0) (aN))) (gN 3) (tYes) (eMut (lLst (aN))) [3])))
    (b_near_lots_1)
def d_near_lots : Fn := fnP 6 b_near_lots
def b_is_whole : Sv := sRet (eAnd (eIs Ty.int (eV 0)) (e1 uNot (eIs Ty.bool (eV 0))))
def d_is_whole : Fn := fnP 1 b_is_whole
def b_is_count : Sv := sRet (eAnd (eCall d_is_whole (aC (eV 0) (aN))) (e2 oGe (eV 0) (eC (.int 0))))
def d_is_count : Fn := fnP 1 b_is_count
def b_is_place_of : Sv := sRet (eAnd (eCall d_is_count (aC (eV 1) (aN))) (e2 oLt (eV 1) (eV 0)))
def d_is_place_of : Fn := fnP 2 b_is_place_of
def b_is_tie_1 : Sv := sRet (e2 oLt (e2 oIx (eV 1) (eC (.int 0))) (e2 oIx (eV 1) (eC (.int 1))))
def b_is_tie : Sv := sSeq (sIf (tOr (tNot (tT (eIs Ty.tuple (eV 1)))) (tOr (tB (e2 oNe (eB bLen (aC (eV 1) (aN))) (eC (.int 2)))) (tNot (tT (eB bAll (aC (eFrz (lComp (iA (eV 1)) (gN 2) (tYes) (eCall d_is_place_of (aC (eV 0) (aC (eV 2) (aN)))) [2])) (aN))))))) (sRet (eC (.bl false))) (sPass))
    (b_is_tie_1)
def d_is_tie : Fn := fnP 3 b_is_tie
def b_are_ties_1 : Sv := sRet (eB bAll (aC (eFrz (lComp (iZipD (aC (eV 1) (aC (eSl (eV 1) (oS (eC (.int 1))) (oN)) (aN)))) (gT [gN 2, gN 3]) (tYes) (e2 oLt (eV 2) (eV 3)) [2, 3])) (aN)))
def b_are_ties : Sv := sSeq (sIf (tOr (tNot (tT (eCall d_is_count (aC (eV 0) (aN))))) (tOr (tNot (tT (eIs Ty.tuple (eV 1)))) (tNot (tT (eB bAll (aC (eFrz (lComp (iA (eV 1)) (gN 4) (tYes) (eCall d_is_tie (aC (eV 0) (aC (eV 4) (aN)))) [4])) (aN))))))) (sRet (eC (.bl false))) (sPass))
    (b_are_ties_1)
def d_are_ties : Fn := fnP 5 b_are_ties
def b_Web : Av := bIf (tNot (tT (eCall d_are_ties (aC (eV 1) (aC (eV 2) (aN)))))) (sRaise "BadWeb" ["web"] (aC (eTup (aC (eV 1) (aC (eV 2) (aN)))) (aN))) (aC (eV 1) (aC (eV 2) (aC (eCall d_near_lots (aC (eV 1) (aC (eV 2) (aN)))) (aN))))
def d_Web : Fn := mkO b_Web "Web" ["places", "ties", "near"] 3
def b_u_law_near_l1_1 : Sv := sApp (e2 oIx (eV 2) (eV 4)) (eV 3)
def b_u_law_near_l1 : Sv := sSeq (sApp (e2 oIx (eV 2) (eV 3)) (eV 4))
    (b_u_law_near_l1_1)
def b_u_law_near_2 : Sv := sRet (eFrz (lComp (iA (eV 2)) (gN 5) (tYes) (eFrz (lB mSortA (aC (eV 5) (aN)))) [5]))
def b_u_law_near_1 : Sv := sSeq (sForX (iX (eV 1)) (gT [gN 3, gN 4]) (b_u_law_near_l1))
    (b_u_law_near_2)
def b_u_law_near : Sv := sSeq (sAsg (gN 2) (eFrz (lComp (iR1 (aC (eV 0) (aN))) (gN 3) (tYes) (eMut (lLst (aN))) [3])))
    (b_u_law_near_1)
def d_u_law_near : Fn := fnP 6 b_u_law_near
def b_u_law_uneven_l3 : Sv := sIf (tB (e2 oEq (e2 oIn (eV 6) (e2 oIx (eV 1) (eV 5))) (e2 oEq (eV 3) (eC (.str "tied"))))) (sSeq (sAsg (gN 7) (eB bLen (aC (eFrz (lComp (iA (e2 oIx (eV 1) (eV 5))) (gN 8) (tB (e2 oIn (eV 8) (e2 oIx (eV 1) (eV 6)))) (eV 8) [8])) (aN))))
    (sSeq (sIf (tB (e2 oIs (eV 4) (eC .non))) (sAsg (gN 4) (eV 7)) (sPass))
    (sIf (tB (e2 oNe (eV 7) (eV 4))) (sRet (eTup (aC (eV 3) (aC (eTup (aC (eV 5) (aC (eV 6) (aN)))) (aN))))) (sPass)))) (sPass)
def b_u_law_uneven_l2 : Sv := sFor (iR2 (aC (e2 oAdd (eV 5) (eC (.int 1))) (aC (eV 0) (aN)))) (gN 6) (b_u_law_uneven_l3)
def b_u_law_uneven_l1_1 : Sv := sFor (iR1 (aC (eV 0) (aN))) (gN 5) (b_u_law_uneven_l2)
def b_u_law_uneven_l1 : Sv := sSeq (sAsg (gN 4) (eC .non))
    (b_u_law_uneven_l1_1)
def b_u_law_uneven_4 : Sv := sRet (eC .non)
def b_u_law_uneven_3 : Sv := sSeq (sFor (iA (eFrz (lLst (aC (eC (.str "tied")) (aC (eC (.str "untied")) (aN)))))) (gN 3) (b_u_law_uneven_l1))
    (b_u_law_uneven_4)
def b_u_law_uneven_2 : Sv := sSeq (sIf (tB (e2 oNe (eV 2) (eFrz (lLst (aN))))) (sRet (eTup (aC (eC (.str "degree")) (aC (e2 oIx (eV 2) (eC (.int 0))) (aN))))) (sPass))
    (b_u_law_uneven_3)
def b_u_law_uneven_1 : Sv := sSeq (sAsg (gN 2) (eFrz (lComp (iR1 (aC (eV 0) (aN))) (gN 5) (tB (e2 oNe (eB bLen (aC (e2 oIx (eV 1) (eV 5)) (aN))) (eB bLen (aC (e2 oIx (eV 1) (eC (.int 0))) (aN))))) (eV 5) [5])))
    (b_u_law_uneven_2)
def b_u_law_uneven : Sv := sSeq (sIf (tOr (tB (e2 oEq (eV 0) (eC (.int 0)))) (tB (e2 oIn (eB bLen (aC (e2 oIx (eV 1) (eC (.int 0))) (aN))) (eFrz (lLst (aC (eC (.int 0)) (aC (e2 oSub (eV 0) (eC (.int 1))) (aN)))))))) (sRet (eTup (aC (eC (.str "degree")) (aC (eC (.int 0)) (aN))))) (sPass))
    (b_u_law_uneven_1)
def d_u_law_uneven : Fn := fnP 9 b_u_law_uneven
def b_is_web : Sv := sRet (e1 (isO "Web") (eV 0))
def d_is_web : Fn := fnP 1 b_is_web
def b_need_web : Sv := sIf (tNot (tT (eCall d_is_web (aC (eV 0) (aN))))) (sRaise "BadWeb" ["web"] (aC (eV 0) (aN))) (sPass)
def d_need_web : Fn := fnP 1 b_need_web
def b_degrees_in : Sv := sRet (eB bTuple (aC (eFrz (lComp (iA (e1 (oFld "Web" "near") (eV 0))) (gN 1) (tYes) (eB bLen (aC (eV 1) (aN))) [1])) (aN)))
def d_degrees_in : Fn := fnP 2 b_degrees_in
def b_tied_in : Sv := sRet (e2 oIn (eV 2) (e2 oIx (e1 (oFld "Web" "near") (eV 0)) (eV 1)))
def d_tied_in : Fn := fnP 3 b_tied_in
def b_pairs_in : Sv := sRet (eFrz (lComp2 (iR1 (aC (e1 (oFld "Web" "places") (eV 0)) (aN))) (gN 2) (tYes) (iR2 (aC (e2 oAdd (eV 2) (eC (.int 1))) (aC (e1 (oFld "Web" "places") (eV 0)) (aN)))) (gN 3) (tB (e2 oEq (eCall d_tied_in (aC (eV 0) (aC (eV 2) (aC (eV 3) (aN))))) (eV 1))) (eTup (aC (eV 2) (aC (eV 3) (aN)))) [2, 3] [3]))
def d_pairs_in : Fn := fnP 4 b_pairs_in
def b_common_in_1 : Sv := sRet (eB bTuple (aC (eFrz (lComp (iA (e2 oIx (e1 (oFld "Web" "near") (eV 0)) (eV 1))) (gN 4) (tB (e2 oIn (eV 4) (eV 3))) (eV 4) [4])) (aN)))
def b_common_in : Sv := sSeq (sAsg (gN 3) (eDc (iA (e2 oIx (e1 (oFld "Web" "near") (eV 0)) (eV 2))) (gN 4) (tYes) (eV 4) (eC (.bl true)) [4]))
    (b_common_in_1)
def d_common_in : Fn := fnP 5 b_common_in
def b_uneven_in_l1 : Sv := sIf (tB (e2 oNe (eV 3) (e2 oIx (eV 1) (eC (.int 0))))) (sRet (eTup (aC (eC (.str "degree")) (aC (eV 2) (aN))))) (sPass)
def b_uneven_in_l2_3 : Sv := sIf (tT (eV 8)) (sRet (eTup (aC (eV 4) (aC (e2 oIx (eV 8) (eC (.int 0))) (aN))))) (sPass)
def b_uneven_in_l2_2 : Sv := sSeq (sAsg (gN 8) (eFrz (lComp (iZipD (aC (eV 6) (aC (eV 7) (aN)))) (gT [gN 10, gN 11]) (tB (e2 oNe (eV 11) (e2 oIx (eV 7) (eC (.int 0))))) (eV 10) [10, 11])))
    (b_uneven_in_l2_3)
def b_uneven_in_l2_1 : Sv := sSeq (sAsg (gN 7) (eFrz (lComp (iA (eV 6)) (gT [gN 2, gN 9]) (tYes) (eB bLen (aC (eCall d_common_in (aC (eV 0) (aC (eV 2) (aC (eV 9) (aN))))) (aN))) [2, 9])))
    (b_uneven_in_l2_2)
def b_uneven_in_l2 : Sv := sSeq (sAsg (gN 6) (eCall d_pairs_in (aC (eV 0) (aC (eV 5) (aN)))))
    (b_uneven_in_l2_1)
def b_uneven_in_4 : Sv := sRet (eC .non)
def b_uneven_in_3 : Sv := sSeq (sFor (iA (eTup (aC (eTup (aC (eC (.str "tied")) (aC (eC (.bl true)) (aN)))) (aC (eTup (aC (eC (.str "untied")) (aC (eC (.bl false)) (aN)))) (aN))))) (gT [gN 4, gN 5]) (b_uneven_in_l2))
    (b_uneven_in_4)
def b_uneven_in_2 : Sv := sSeq (sFor (iEnumV (aC (eV 1) (aN))) (gT [gN 2, gN 3]) (b_uneven_in_l1))
    (b_uneven_in_3)
def b_uneven_in_1 : Sv := sSeq (sIf (tOr (tNot (tT (eV 1))) (tB (e2 oIn (e2 oIx (eV 1) (eC (.int 0))) (eTup (aC (eC (.int 0)) (aC (e2 oSub (e1 (oFld "Web" "places") (eV 0)) (eC (.int 1))) (aN))))))) (sRet (eTup (aC (eC (.str "degree")) (aC (eC (.int 0)) (aN))))) (sPass))
    (b_uneven_in_2)
def b_uneven_in : Sv := sSeq (sAsg (gN 1) (eCall d_degrees_in (aC (eV 0) (aN))))
    (b_uneven_in_1)
def d_uneven_in : Fn := fnP 12 b_uneven_in
def b_uneven_1 : Sv := sRet (eCall d_uneven_in (aC (eV 0) (aN)))
def b_uneven : Sv := sSeq (sExpr (eCall d_need_web (aC (eV 0) (aN))))
    (b_uneven_1)
def d_uneven : Fn := fnP 1 b_uneven
def b_u_law_draw_4 : Sv := sRet (e2 oMod (e2 oDiv (eB bInt (aC (e2 oMod (e2 oPow (eV 4) (eC (.int 17))) (eC (.int 2305843009213693951))) (aN))) (eC (.int 256))) (eV 1))
def b_u_law_draw_3 : Sv := sSeq (sAsg (gN 4) (e2 oAdd (e2 oAdd (e2 oIx (eV 0) (eC (.str "fold"))) (e2 oMul (e2 oIx (eV 0) (eC (.str "count"))) (eC (.int 9341)))) (eC (.int 107))))
    (b_u_law_draw_4)
def b_u_law_draw_2 : Sv := sSeq (sIf (tB (e2 oGt (e2 oIx (eV 0) (eC (.str "digits"))) (eC (.int 0)))) (sSeq (sAsg (gN 3) (e2 oMod (eB bInt (aC (e2 oIx (eV 0) (eC (.str "digits"))) (aN))) (eV 1)))
    (sSeq (sStore (eV 0) (eC (.str "digits")) (e2 oDiv (e2 oIx (eV 0) (eC (.str "digits"))) (eV 1)))
    (sRet (eV 3)))) (sPass))
    (b_u_law_draw_3)
def b_u_law_draw_1 : Sv := sSeq (sIf (tAnd (tB (e2 oEq (e2 oIx (eV 0) (eC (.str "digits"))) (eC (.int 0)))) (tB (e2 oLt (e2 oIx (eV 0) (eC (.str "at"))) (eB bLen (aC (e2 oIx (eV 0) (eC (.str "cells"))) (aN)))))) (sSeq (sAsg (gN 2) (e2 oIx (e2 oIx (eV 0) (eC (.str "cells"))) (e2 oIx (eV 0) (eC (.str "at")))))
    (sSeq (sStore (eV 0) (eC (.str "at")) (e2 oAdd (e2 oIx (eV 0) (eC (.str "at"))) (eC (.int 1))))
    (sIf (tB (e2 oGe (eV 2) (e2 oPow (eC (.int 10)) (eC (.int 18))))) (sStore (eV 0) (eC (.str "digits")) (e2 oSub (eV 2) (e2 oPow (eC (.int 10)) (eC (.int 18))))) (sStore (eV 0) (eC (.str "fold")) (e2 oMod (eB bInt (aC (e2 oAdd (e2 oMul (e2 oIx (eV 0) (eC (.str "fold"))) (eC (.int 84421))) (eV 2)) (aN))) (eC (.int 2147482873))))))) (sPass))
    (b_u_law_draw_2)
def b_u_law_draw : Sv := sSeq (sStore (eV 0) (eC (.str "count")) (e2 oAdd (e2 oIx (eV 0) (eC (.str "count"))) (eC (.int 1))))
    (b_u_law_draw_1)
def d_u_law_draw : Fn := fnP 5 b_u_law_draw
def b_u_law_ties_l2_3 : Sv := sIf (tT (eV 6)) (sApp (eV 3) (eTup (aC (eV 4) (aC (eV 5) (aN))))) (sPass)
def b_u_law_ties_l2_2 : Sv := sSeq (sIf (tB (e2 oEq (eV 2) (eC (.int 1)))) (sAsg (gN 6) (e2 oGt (eCall d_u_law_draw (aC (eV 0) (aC (eC (.int 4)) (aN)))) (eC (.int 0)))) (sPass))
    (b_u_law_ties_l2_3)
def b_u_law_ties_l2_1 : Sv := sSeq (sIf (tB (e2 oEq (eV 2) (eC (.int 0)))) (sAsg (gN 6) (eOr (e2 oEq (eV 5) (e2 oAdd (eV 4) (eC (.int 1)))) (e2 oEq (eCall d_u_law_draw (aC (eV 0) (aC (eC (.int 7)) (aN)))) (eC (.int 0))))) (sPass))
    (b_u_law_ties_l2_2)
def b_u_law_ties_l2 : Sv := sSeq (sAsg (gN 6) (e2 oEq (eCall d_u_law_draw (aC (eV 0) (aC (eC (.int 2)) (aN)))) (eC (.int 0))))
    (b_u_law_ties_l2_1)
def b_u_law_ties_l1 : Sv := sFor (iR2 (aC (e2 oAdd (eV 4) (eC (.int 1))) (aC (eV 1) (aN)))) (gN 5) (b_u_law_ties_l2)
def b_u_law_ties_2 : Sv := sRet (eB bTuple (aC (eV 3) (aN)))
def b_u_law_ties_1 : Sv := sSeq (sFor (iR1 (aC (eV 1) (aN))) (gN 4) (b_u_law_ties_l1))
    (b_u_law_ties_2)
def b_u_law_ties : Sv := sSeq (sPar 2 3 (aC (eCall d_u_law_draw (aC (eV 0) (aC (eC (.int 4)) (aN)))) (aC (eMut (lLst (aN))) aN)))
    (b_u_law_ties_1)
def d_u_law_ties : Fn := fnP 7 b_u_law_ties
def b_u_law_pick : Sv := sRet (e2 oIx (eV 1) (eCall d_u_law_draw (aC (eV 0) (aC (eB bLen (aC (eV 1) (aN))) (aN)))))
def d_u_law_pick : Fn := fnP 2 b_u_law_pick
def b_u_law_mixed_l1 : Sv := sApp (eV 3) (ePop (eV 2) (eCall d_u_law_draw (aC (eV 0) (aC (eB bLen (aC (eV 2) (aN))) (aN)))))
def b_u_law_mixed_2 : Sv := sRet (eV 3)
def b_u_law_mixed_1 : Sv := sSeq (sFor (iR1 (aC (eB bLen (aC (eV 1) (aN))) (aN))) (gN 4) (b_u_law_mixed_l1))
    (b_u_law_mixed_2)
def b_u_law_mixed : Sv := sSeq (sPar 2 3 (aC (eMut (lB mList (aC (eV 1) (aN)))) (aC (eMut (lLst (aN))) aN)))
    (b_u_law_mixed_1)
def d_u_law_mixed : FnL := fnL 5 b_u_law_mixed
def b_numbers_of_4 : Sv := sRet (eTup (aC (e1 (oFld "Web" "places") (eV 0)) (aC (eB bLen (aC (e2 oIx (e1 (oFld "Web" "near") (eV 0)) (eC (.int 0))) (aN))) (aC (e2 oIx (eV 2) (eC (.int 0))) (aC (e2 oIx (eV 2) (eC (.int 1))) (aN))))))
def b_numbers_of_3 : Sv := sSeq (sAsg (gN 2) (eFrz (lComp (iA (eTup (aC (e2 oIx (eCall d_pairs_in (aC (eV 0) (aC (eC (.bl true)) (aN)))) (eC (.int 0))) (aC (e2 oIx (eCall d_pairs_in (aC (eV 0) (aC (eC (.bl false)) (aN)))) (eC (.int 0))) (aN))))) (gT [gN 3, gN 4]) (tYes) (eB bLen (aC (eCall d_common_in (aC (eV 0) (aC (eV 3) (aC (eV 4) (aN))))) (aN))) [3, 4])))
    (b_numbers_of_4)
def b_numbers_of_2 : Sv := sSeq (sIf (tB (e2 oIsNot (eV 1) (eC .non))) (sRaise "NotKept" ["promise", "witness"] (aC (eC (.str "even")) (aC (eV 1) (aN)))) (sPass))
    (b_numbers_of_3)
def b_numbers_of_1 : Sv := sSeq (sAsg (gN 1) (eCall d_uneven_in (aC (eV 0) (aN))))
    (b_numbers_of_2)
def b_numbers_of : Sv := sSeq (sExpr (eCall d_need_web (aC (eV 0) (aN))))
    (b_numbers_of_1)
def d_numbers_of : Fn := fnP 5 b_numbers_of
def b_all_pairs : Sv := sRet (eFrz (lComp2 (iR1 (aC (eV 0) (aN))) (gN 1) (tYes) (iR2 (aC (e2 oAdd (eV 1) (eC (.int 1))) (aC (eV 0) (aN)))) (gN 2) (tYes) (eTup (aC (eV 1) (aC (eV 2) (aN)))) [1, 2] [2]))
def d_all_pairs : Fn := fnP 3 b_all_pairs
def b_complement_in_1 : Sv := sRet (eCall d_Web (aC (e1 (oFld "Web" "places") (eV 0)) (aC (eB bTuple (aC (eFrz (lComp (iA (eCall d_all_pairs (aC (e1 (oFld "Web" "places") (eV 0)) (aN)))) (gN 3) (tB (e2 oNotIn (eV 3) (eV 1))) (eV 3) [3])) (aN))) (aN))))
def b_complement_in : Sv := sSeq (sAsg (gN 1) (eDcT (iA (e1 (oFld "Web" "ties") (eV 0))) (gN 2) (tYes) (eV 2) (eC (.bl true)) [2]))
    (b_complement_in_1)
def d_complement_in : Fn := fnP 4 b_complement_in
def b_complement_1 : Sv := sRet (eCall d_complement_in (aC (eV 0) (aN)))
def b_complement : Sv := sSeq (sExpr (eCall d_need_web (aC (eV 0) (aN))))
    (b_complement_1)
def d_complement : Fn := fnP 1 b_complement
def b_need_number : Sv := sIf (tNot (tT (eCall d_is_count (aC (eV 1) (aN))))) (sRaise "BadNumber" ["what", "number"] (aC (eV 0) (aC (eV 1) (aN)))) (sPass)
def d_need_number : Fn := fnP 2 b_need_number
def b_web_by_1 : Sv := sRet (eCall d_Web (aC (eV 0) (aC (eB bTuple (aC (eFrz (lB mSortA (aC (eV 2) (aN)))) (aN))) (aN))))
def b_web_by : Sv := sSeq (sAsg (gN 2) (eDcT (iA (eV 1)) (gT [gN 3, gN 4]) (tYes) (eTup (aC (eB bMin2 (aC (eV 3) (aC (eV 4) (aN)))) (aC (eB bMax2 (aC (eV 3) (aC (eV 4) (aN)))) (aN)))) (eC (.bl true)) [3, 4]))
    (b_web_by_1)
def d_web_by : Fn := fnP 5 b_web_by
def b_ring_web_2 : Sv := sRet (eCall d_web_by (aC (eV 0) (aC (eFrz (lComp (iR1 (aC (eV 0) (aN))) (gN 1) (tYes) (eTup (aC (eV 1) (aC (e2 oMod (e2 oAdd (eV 1) (eC (.int 1))) (eV 0)) (aN)))) [1])) (aN))))
def b_ring_web_1 : Sv := sSeq (sIf (tB (e2 oLt (eV 0) (eC (.int 3)))) (sRaise "BadNumber" ["what", "number"] (aC (eC (.str "n")) (aC (eV 0) (aN)))) (sPass))
    (b_ring_web_2)
def b_ring_web : Sv := sSeq (sExpr (eCall d_need_number (aC (eC (.str "n")) (aC (eV 0) (aN)))))
    (b_ring_web_1)
def d_ring_web : Fn := fnP 2 b_ring_web
def b_pairs_web_1 : Sv := sRet (eCall d_Web (aC (e2 oMul (eC (.int 2)) (eV 0)) (aC (eB bTuple (aC (eFrz (lComp (iA (eCall d_all_pairs (aC (e2 oMul (eC (.int 2)) (eV 0)) (aN)))) (gT [gN 1, gN 2]) (tB (e2 oNe (e2 oDiv (eV 1) (eC (.int 2))) (e2 oDiv (eV 2) (eC (.int 2))))) (eTup (aC (eV 1) (aC (eV 2) (aN)))) [1, 2])) (aN))) (aN))))
def b_pairs_web : Sv := sSeq (sExpr (eCall d_need_number (aC (eC (.str "n")) (aC (eV 0) (aN)))))
    (b_pairs_web_1)
def d_pairs_web : Fn := fnP 3 b_pairs_web
def b_u_law_point_web_l1 : Sv := sAsg (gN 2) (e2 oAdd (eV 2) (eFrz (lComp (iR2 (aC (eIf (tT (eV 1)) (eC (.int 0)) (e2 oAdd (eV 3) (eC (.int 1)))) (aC (eV 0) (aN)))) (gN 9) (tYes) (eTup (aC (eV 3) (aC (eV 9) (aN)))) [9])))
def b_u_law_point_web_l3_2 : Sv := sIf (tAnd (tNot (tT (eV 1))) (tB (e2 oNe (eFrz (lComp (iA (eV 7)) (gN 3) (tB (e2 oIn (eV 3) (eV 8))) (eV 3) [3])) (eFrz (lLst (aN)))))) (sApp (eV 4) (eTup (aC (eV 5) (aC (eV 6) (aN))))) (sPass)
def b_u_law_point_web_l3_1 : Sv := sSeq (sIf (tAnd (tT (eV 1)) (tOr (tB (e2 oEq (e2 oIx (eV 7) (eC (.int 0))) (e2 oIx (eV 8) (eC (.int 0))))) (tB (e2 oEq (e2 oIx (eV 7) (eC (.int 1))) (e2 oIx (eV 8) (eC (.int 1))))))) (sApp (eV 4) (eTup (aC (eV 5) (aC (eV 6) (aN))))) (sPass))
    (b_u_law_point_web_l3_2)
def b_u_law_point_web_l3 : Sv := sSeq (sAsg (gT [gN 7, gN 8]) (eTup (aC (e2 oIx (eV 2) (eV 5)) (aC (e2 oIx (eV 2) (eV 6)) (aN)))))
    (b_u_law_point_web_l3_1)
def b_u_law_point_web_l2 : Sv := sFor (iR2 (aC (e2 oAdd (eV 5) (eC (.int 1))) (aC (eB bLen (aC (eV 2) (aN))) (aN)))) (gN 6) (b_u_law_point_web_l3)
def b_u_law_point_web_4 : Sv := sRet (eCall d_Web (aC (eB bLen (aC (eV 2) (aN))) (aC (eB bTuple (aC (eV 4) (aN))) (aN))))
def b_u_law_point_web_3 : Sv := sSeq (sFor (iR1 (aC (eB bLen (aC (eV 2) (aN))) (aN))) (gN 5) (b_u_law_point_web_l2))
    (b_u_law_point_web_4)
def b_u_law_point_web_2 : Sv := sSeq (sAsg (gN 4) (eMut (lLst (aN))))
    (b_u_law_point_web_3)
def b_u_law_point_web_1 : Sv := sSeq (sFor (iR1 (aC (eV 0) (aN))) (gN 3) (b_u_law_point_web_l1))
    (b_u_law_point_web_2)
def b_u_law_point_web : Sv := sSeq (sAsg (gN 2) (eFrz (lLst (aN))))
    (b_u_law_point_web_1)
def d_u_law_point_web : Fn := fnP 10 b_u_law_point_web
def b_u_law_is : Sv := sRet (eAnd (eIs Ty.bool (eV 0)) (e2 oEq (eV 0) (eV 1)))
def d_u_law_is : Fn := fnP 2 b_u_law_is
def b_counts_in_1 : Sv := sRet (eB bTuple (aC (eFrz (lComp (iA (eV 1)) (gN 2) (tYes) (eB bTuple (aC (eFrz (lComp (iA (eV 1)) (gN 3) (tYes) (eB bLen (aC (eCall d_common_in (aC (eV 0) (aC (eV 2) (aC (eV 3) (aN))))) (aN))) [3])) (aN))) [2])) (aN)))
def b_counts_in : Sv := sSeq (sAsg (gN 1) (eFrz (lRng1 (e1 (oFld "Web" "places") (eV 0)))))
    (b_counts_in_1)
def d_counts_in : Fn := fnP 4 b_counts_in
def b_common_counts_1 : Sv := sRet (eCall d_counts_in (aC (eV 0) (aN)))
def b_common_counts : Sv := sSeq (sExpr (eCall d_need_web (aC (eV 0) (aN))))
    (b_common_counts_1)
def d_common_counts : Fn := fnP 1 b_common_counts
def b_need_place : Sv := sIf (tNot (tT (eCall d_is_place_of (aC (e1 (oFld "Web" "places") (eV 0)) (aC (eV 1) (aN)))))) (sRaise "BadNumber" ["what", "number"] (aC (eC (.str "place")) (aC (eV 1) (aN)))) (sPass)
def d_need_place : Fn := fnP 2 b_need_place
def b_common_near_3 : Sv := sRet (eCall d_common_in (aC (eV 0) (aC (eV 1) (aC (eV 2) (aN)))))
def b_common_near_2 : Sv := sSeq (sExpr (eCall d_need_place (aC (eV 0) (aC (eV 2) (aN)))))
    (b_common_near_3)
def b_common_near_1 : Sv := sSeq (sExpr (eCall d_need_place (aC (eV 0) (aC (eV 1) (aN)))))
    (b_common_near_2)
def b_common_near : Sv := sSeq (sExpr (eCall d_need_web (aC (eV 0) (aN))))
    (b_common_near_1)
def d_common_near : Fn := fnP 3 b_common_near
def b_is_even_1 : Sv := sRet (e2 oIs (eCall d_uneven_in (aC (eV 0) (aN))) (eC .non))
def b_is_even : Sv := sSeq (sExpr (eCall d_need_web (aC (eV 0) (aN))))
    (b_is_even_1)
def d_is_even : Fn := fnP 1 b_is_even
def b_are_numbers_2 : Sv := sRet (eAnd (eCh oLt oLt (eC (.int 0)) (eV 2) (e2 oSub (eV 1) (eC (.int 1)))) (eAnd (e2 oLt (eV 3) (eV 2)) (e2 oLe (eV 4) (eV 2))))
def b_are_numbers_1 : Sv := sSeq (sAsg (gT [gN 1, gN 2, gN 3, gN 4]) (eV 0))
    (b_are_numbers_2)
def b_are_numbers : Sv := sSeq (sIf (tOr (tNot (tT (eIs Ty.tuple (eV 0)))) (tOr (tB (e2 oNe (eB bLen (aC (eV 0) (aN))) (eC (.int 4)))) (tNot (tT (eB bAll (aC (eFrz (lComp (iA (eV 0)) (gN 5) (tYes) (eCall d_is_count (aC (eV 5) (aN))) [5])) (aN))))))) (sRet (eC (.bl false))) (sPass))
    (b_are_numbers_1)
def d_are_numbers : Fn := fnP 6 b_are_numbers
def b_need_numbers : Sv := sIf (tNot (tT (eCall d_are_numbers (aC (eV 0) (aN))))) (sRaise "BadRow" ["row"] (aC (eV 0) (aN))) (sPass)
def d_need_numbers : Fn := fnP 1 b_need_numbers
def b_turned_in_1 : Sv := sRet (eTup (aC (eV 1) (aC (e2 oSub (e2 oSub (eV 1) (eV 2)) (eC (.int 1))) (aC (e2 oSub (e2 oAdd (e2 oSub (eV 1) (e2 oMul (eC (.int 2)) (eV 2))) (eV 4)) (eC (.int 2))) (aC (e2 oAdd (e2 oSub (eV 1) (e2 oMul (eC (.int 2)) (eV 2))) (eV 3)) (aN))))))
def b_turned_in : Sv := sSeq (sAsg (gT [gN 1, gN 2, gN 3, gN 4]) (eV 0))
    (b_turned_in_1)
def d_turned_in : Fn := fnP 5 b_turned_in
def b_turned_numbers_3 : Sv := sRet (eV 1)
def b_turned_numbers_2 : Sv := sSeq (sIf (tB (e2 oLt (eB bMin (aC (eV 1) (aN))) (eC (.int 0)))) (sRaise "NotKept" ["promise", "witness"] (aC (eC (.str "numbers")) (aC (eV 1) (aN)))) (sPass))
    (b_turned_numbers_3)
def b_turned_numbers_1 : Sv := sSeq (sAsg (gN 1) (eCall d_turned_in (aC (eV 0) (aN))))
    (b_turned_numbers_2)
def b_turned_numbers : Sv := sSeq (sExpr (eCall d_need_numbers (aC (eV 0) (aN))))
    (b_turned_numbers_1)
def d_turned_numbers : Fn := fnP 2 b_turned_numbers
def b_law_l2_1 : Sv := sApp (eV 7) (eTup (aC (eB bMin2 (aC (eV 10) (aC (eV 11) (aN)))) (aC (eB bMax2 (aC (eV 10) (aC (eV 11) (aN)))) (aN))))
def b_law_l2 : Sv := sSeq (sAsg (gT [gN 10, gN 11]) (eTup (aC (e2 oIx (eV 6) (eV 8)) (aC (e2 oIx (eV 6) (eV 9)) (aN)))))
    (b_law_l2_1)
def b_law_l4_1 : Sv := sIf (tB (e2 oNe (e2 oIx (e2 oIx (eV 15) (eV 8)) (eV 9)) (eV 20))) (sRet (eC (.bl false))) (sPass)
def b_law_l4 : Sv := sSeq (sAsg (gN 20) (eIf (tB (e2 oEq (eV 8) (eV 9))) (eV 17) (eIf (tB (e2 oIn (eV 9) (e2 oIx (eV 12) (eV 8)))) (eV 18) (eV 19))))
    (b_law_l4_1)
def b_law_l3 : Sv := sFor (iA (eV 14)) (gN 9) (b_law_l4)
def b_law_l1_16 : Sv := sIf (tB (e2 oIs (eV 13) (eC .non))) (sSeq (sAsg (gN 16) (eCall d_numbers_of (aC (eV 4) (aN))))
    (sSeq (sAsg (gT [gN 17, gN 18, gN 19]) (eSl (eV 16) (oS (eC (.int 1))) (oN)))
    (sSeq (sFor (iA (eV 14)) (gN 8) (b_law_l3))
    (sSeq (sIf (tOr (tB (e2 oNe (e2 oIx (eV 16) (eC (.int 0))) (eV 3))) (tOr (tB (e2 oNe (e2 oMul (eV 17) (e2 oSub (e2 oSub (eV 17) (eV 18)) (eC (.int 1)))) (e2 oMul (e2 oSub (e2 oSub (eV 3) (eV 17)) (eC (.int 1))) (eV 19)))) (tNot (tT (eIs Ty.tuple (eV 16)))))) (sRet (eC (.bl false))) (sPass))
    (sSeq (sAsg (gN 21) (eCall d_complement (aC (eV 4) (aN))))
    (sIf (tOr (tB (e2 oIsNot (eCall d_is_even (aC (eV 21) (aN))) (eC (.bl true)))) (tB (e2 oNe (eCall d_numbers_of (aC (eV 21) (aN))) (eCall d_turned_numbers (aC (eV 16) (aN)))))) (sRet (eC (.bl false))) (sPass))))))) (sPass)
def b_law_l1_15 : Sv := sSeq (sIf (tB (e2 oNe (eB bRepr (aC (eCall d_common_near (aC (eV 4) (aC (eV 8) (aC (eV 9) (aN))))) (aN))) (eB bRepr (aC (eB bTuple (aC (eFrz (lComp (iA (e2 oIx (eV 12) (eV 8))) (gN 23) (tB (e2 oIn (eV 23) (e2 oIx (eV 12) (eV 9)))) (eV 23) [23])) (aN))) (aN))))) (sRet (eC (.bl false))) (sPass))
    (b_law_l1_16)
def b_law_l1_14 : Sv := sSeq (sAsg (gT [gN 8, gN 9]) (eTup (aC (eCall d_u_law_draw (aC (eV 1) (aC (eV 3) (aN)))) (aC (eCall d_u_law_draw (aC (eV 1) (aC (eV 3) (aN)))) (aN)))))
    (b_law_l1_15)
def b_law_l1_13 : Sv := sSeq (sIf (tB (e2 oNe (eB bRepr (aC (eCall d_common_counts (aC (eV 4) (aN))) (aN))) (eB bRepr (aC (eB bTuple (aC (eFrz (lComp (iA (eV 15)) (gN 24) (tYes) (eB bTuple (aC (eV 24) (aN))) [24])) (aN))) (aN))))) (sRet (eC (.bl false))) (sPass))
    (b_law_l1_14)
def b_law_l1_12 : Sv := sSeq (sAsg (gN 15) (eFrz (lComp (iA (eV 14)) (gN 8) (tYes) (eFrz (lComp (iA (eV 14)) (gN 9) (tYes) (eB bLen (aC (eFrz (lComp (iA (e2 oIx (eV 12) (eV 8))) (gN 23) (tB (e2 oIn (eV 23) (e2 oIx (eV 12) (eV 9)))) (eV 23) [23])) (aN))) [9])) [8])))
    (b_law_l1_13)
def b_law_l1_11 : Sv := sSeq (sAsg (gN 14) (eFrz (lRng1 (eV 3))))
    (b_law_l1_12)
def b_law_l1_10 : Sv := sSeq (sIf (tOr (tB (e2 oNe (eB bRepr (aC (eCall d_uneven (aC (eV 4) (aN))) (aN))) (eB bRepr (aC (eV 13) (aN))))) (tNot (tT (eCall d_u_law_is (aC (eCall d_is_even (aC (eV 4) (aN))) (aC (e2 oIs (eV 13) (eC .non)) (aN))))))) (sRet (eC (.bl false))) (sPass))
    (b_law_l1_11)
def b_law_l1_9 : Sv := sSeq (sAsg (gN 13) (eCall d_u_law_uneven (aC (eV 3) (aC (eV 12) (aN)))))
    (b_law_l1_10)
def b_law_l1_8 : Sv := sSeq (sAsg (gN 12) (eCall d_u_law_near (aC (eV 3) (aC (eV 7) (aN)))))
    (b_law_l1_9)
def b_law_l1_7 : Sv := sSeq (sAsg (gN 4) (eCall d_Web (aC (eV 3) (aC (eB bTuple (aC (eFrz (lB mSortA (aC (eV 7) (aN)))) (aN))) (aN)))))
    (b_law_l1_8)
def b_law_l1_6 : Sv := sSeq (sIf (tAnd (tB (e2 oEq (eCall d_u_law_draw (aC (eV 1) (aC (eC (.int 3)) (aN)))) (eC (.int 0)))) (tB (e2 oGt (eV 3) (eC (.int 1))))) (sSeq (sAsg (gTL [gN 10, gN 11]) (eFrz (lB mSortA (aC (eSl (eFrz (lCall d_u_law_mixed (aC (eV 1) (aC (eFrz (lRng1 (eV 3))) (aN))))) (oN) (oS (eC (.int 2)))) (aN)))))
    (sAsg (gN 7) (e2 oAdd (eFrz (lCompX (iX (eV 7)) (gN 22) (tB (e2 oNe (eV 22) (eTup (aC (eV 10) (aC (eV 11) (aN)))))) (eV 22) [22])) (eIf (tB (e2 oIn (eTup (aC (eV 10) (aC (eV 11) (aN)))) (eV 7))) (eFrz (lLst (aN))) (eFrz (lLst (aC (eTup (aC (eV 10) (aC (eV 11) (aN)))) (aN)))))))) (sPass))
    (b_law_l1_7)
def b_law_l1_5 : Sv := sSeq (sFor (iA (e1 (oFld "Web" "ties") (eV 4))) (gT [gN 8, gN 9]) (b_law_l2))
    (b_law_l1_6)
def b_law_l1_4 : Sv := sSeq (sPar 6 7 (aC (eFrz (lCall d_u_law_mixed (aC (eV 1) (aC (eFrz (lRng1 (eV 3))) (aN))))) (aC (eMut (lLst (aN))) aN)))
    (b_law_l1_5)
def b_law_l1_3 : Sv := sSeq (sAsg (gN 3) (e1 (oFld "Web" "places") (eV 4)))
    (b_law_l1_4)
def b_law_l1_2 : Sv := sSeq (sIf (tB (e2 oGt (eV 2) (eC (.int 1)))) (sSeq (sAsg (gN 5) (eFrz (lLst (aC (eCall d_ring_web (aC (eC (.int 5)) (aN))) (aC (eCall d_ring_web (aC (eC (.int 4)) (aN))) (aC (eCall d_ring_web (aC (eC (.int 6)) (aN))) (aC (eCall d_pairs_web (aC (eC (.int 3)) (aN))) (aC (eCall d_pairs_web (aC (eC (.int 4)) (aN))) (aC (eCall d_u_law_point_web (aC (eC (.int 5)) (aC (eC (.bl false)) (aN)))) (aN))))))))))
    (sSeq (sAsg (gN 5) (e2 oAdd (eV 5) (eFrz (lLst (aC (eCall d_u_law_point_web (aC (eC (.int 4)) (aC (eC (.bl true)) (aN)))) (aC (eCall d_u_law_point_web (aC (eC (.int 3)) (aC (eC (.bl true)) (aN)))) (aC (eCall d_u_law_point_web (aC (eC (.int 6)) (aC (eC (.bl false)) (aN)))) (aN))))))))
    (sAsg (gN 4) (eCall d_u_law_pick (aC (eV 1) (aC (eV 5) (aN))))))) (sPass))
    (b_law_l1_3)
def b_law_l1_1 : Sv := sSeq (sAsg (gN 4) (eCall d_Web (aC (eV 3) (aC (eCall d_u_law_ties (aC (eV 1) (aC (eV 3) (aN)))) (aN)))))
    (b_law_l1_2)
def b_law_l1 : Sv := sSeq (sAsg (gN 3) (e2 oAdd (eC (.int 1)) (eCall d_u_law_draw (aC (eV 1) (aC (eC (.int 8)) (aN))))))
    (b_law_l1_1)
def b_law_2 : Sv := sRet (e2 oEq (eCall d_uneven (aC (eCall d_Web (aC (eC (.int 0)) (aC (eTup (aN)) (aN)))) (aN))) (eTup (aC (eC (.str "degree")) (aC (eC (.int 0)) (aN)))))
def b_law_1 : Sv := sSeq (sFor (iR1 (aC (eC (.int 4)) (aN))) (gN 2) (b_law_l1))
    (b_law_2)
def b_law : Sv := sSeq (sAsg (gN 1) (eCall d_u_law_pen (aC (eV 0) (aN))))
    (b_law_1)
def d_law : Fn := fnP 25 b_law
end L25
end

section
set_option Elab.async false
set_option linter.all false
set_option maxRecDepth 100000
/-! WA: the bodies of the defs, law-free. -/
namespace Pg
open PySem Y
def b_near_lots_l1_1 : Sv := sApp (e2 oIx (eV 2) (eV 4)) (eV 3)
def b_near_lots_l1 : Sv := sSeq (sApp (e2 oIx (eV 2) (eV 3)) (eV 4))
    (b_near_lots_l1_1)
def b_near_lots_2 : Sv := sRet (eB bTuple (aC (eFrz (lComp (iA (eV 2)) (gN 5) (tYes) (eB bTuple (aC (eFrz (lB mSortA (aC (eV 5) (aN)))) (aN))) [5])) (aN)))
def b_near_lots_1 : Sv := sSeq (sFor (iA (eV 1)) (gT [gN 3, gN 4]) (b_near_lots_l1))
    (b_near_lots_2)
def b_near_lots : Sv := sSeq (sAsg (gN 2) (eFrz (lComp (iR1 (aC (eV 0) (aN))) (gN 3) (tYes) (eMut (lLst (aN))) [3])))
    (b_near_lots_1)
def d_near_lots : Fn := fnP 6 b_near_lots
def b_is_whole : Sv := sRet (eAnd (eIs Ty.int (eV 0)) (e1 uNot (eIs Ty.bool (eV 0))))
def d_is_whole : Fn := fnP 1 b_is_whole
def b_is_count : Sv := sRet (eAnd (eCall d_is_whole (aC (eV 0) (aN))) (e2 oGe (eV 0) (eC (.int 0))))
def d_is_count : Fn := fnP 1 b_is_count
def b_is_place_of : Sv := sRet (eAnd (eCall d_is_count (aC (eV 1) (aN))) (e2 oLt (eV 1) (eV 0)))
def d_is_place_of : Fn := fnP 2 b_is_place_of
def b_is_tie_1 : Sv := sRet (e2 oLt (e2 oIx (eV 1) (eC (.int 0))) (e2 oIx (eV 1) (eC (.int 1))))
def b_is_tie : Sv := sSeq (sIf (tOr (tNot (tT (eIs Ty.tuple (eV 1)))) (tOr (tB (e2 oNe (eB bLen (aC (eV 1) (aN))) (eC (.int 2)))) (tNot (tT (eB bAll (aC (eFrz (lComp (iA (eV 1)) (gN 2) (tYes) (eCall d_is_place_of (aC (eV 0) (aC (eV 2) (aN)))) [2])) (aN))))))) (sRet (eC (.bl false))) (sPass))
    (b_is_tie_1)
def d_is_tie : Fn := fnP 3 b_is_tie
def b_are_ties_1 : Sv := sRet (eB bAll (aC (eFrz (lComp (iZipD (aC (eV 1) (aC (eSl (eV 1) (oS (eC (.int 1))) (oN)) (aN)))) (gT [gN 2, gN 3]) (tYes) (e2 oLt (eV 2) (eV 3)) [2, 3])) (aN)))
def b_are_ties : Sv := sSeq (sIf (tOr (tNot (tT (eCall d_is_count (aC (eV 0) (aN))))) (tOr (tNot (tT (eIs Ty.tuple (eV 1)))) (tNot (tT (eB bAll (aC (eFrz (lComp (iA (eV 1)) (gN 4) (tYes) (eCall d_is_tie (aC (eV 0) (aC (eV 4) (aN)))) [4])) (aN))))))) (sRet (eC (.bl false))) (sPass))
    (b_are_ties_1)
def d_are_ties : Fn := fnP 5 b_are_ties
def b_Web : Av := bIf (tNot (tT (eCall d_are_ties (aC (eV 1) (aC (eV 2) (aN)))))) (sRaise "BadWeb" ["web"] (aC (eTup (aC (eV 1) (aC (eV 2) (aN)))) (aN))) (aC (eV 1) (aC (eV 2) (aC (eCall d_near_lots (aC (eV 1) (aC (eV 2) (aN)))) (aN))))
def d_Web : Fn := mkO b_Web "Web" ["places", "ties", "near"] 3
def b_is_web : Sv := sRet (e1 (isO "Web") (eV 0))
def d_is_web : Fn := fnP 1 b_is_web
def b_need_web : Sv := sIf (tNot (tT (eCall d_is_web (aC (eV 0) (aN))))) (sRaise "BadWeb" ["web"] (aC (eV 0) (aN))) (sPass)
def d_need_web : Fn := fnP 1 b_need_web
def b_degrees_in : Sv := sRet (eB bTuple (aC (eFrz (lComp (iA (e1 (oFld "Web" "near") (eV 0))) (gN 1) (tYes) (eB bLen (aC (eV 1) (aN))) [1])) (aN)))
def d_degrees_in : Fn := fnP 2 b_degrees_in
def b_tied_in : Sv := sRet (e2 oIn (eV 2) (e2 oIx (e1 (oFld "Web" "near") (eV 0)) (eV 1)))
def d_tied_in : Fn := fnP 3 b_tied_in
def b_pairs_in : Sv := sRet (eFrz (lComp2 (iR1 (aC (e1 (oFld "Web" "places") (eV 0)) (aN))) (gN 2) (tYes) (iR2 (aC (e2 oAdd (eV 2) (eC (.int 1))) (aC (e1 (oFld "Web" "places") (eV 0)) (aN)))) (gN 3) (tB (e2 oEq (eCall d_tied_in (aC (eV 0) (aC (eV 2) (aC (eV 3) (aN))))) (eV 1))) (eTup (aC (eV 2) (aC (eV 3) (aN)))) [2, 3] [3]))
def d_pairs_in : Fn := fnP 4 b_pairs_in
def b_common_in_1 : Sv := sRet (eB bTuple (aC (eFrz (lComp (iA (e2 oIx (e1 (oFld "Web" "near") (eV 0)) (eV 1))) (gN 4) (tB (e2 oIn (eV 4) (eV 3))) (eV 4) [4])) (aN)))
def b_common_in : Sv := sSeq (sAsg (gN 3) (eDc (iA (e2 oIx (e1 (oFld "Web" "near") (eV 0)) (eV 2))) (gN 4) (tYes) (eV 4) (eC (.bl true)) [4]))
    (b_common_in_1)
def d_common_in : Fn := fnP 5 b_common_in
def b_uneven_in_l1 : Sv := sIf (tB (e2 oNe (eV 3) (e2 oIx (eV 1) (eC (.int 0))))) (sRet (eTup (aC (eC (.str "degree")) (aC (eV 2) (aN))))) (sPass)
def b_uneven_in_l2_3 : Sv := sIf (tT (eV 8)) (sRet (eTup (aC (eV 4) (aC (e2 oIx (eV 8) (eC (.int 0))) (aN))))) (sPass)
def b_uneven_in_l2_2 : Sv := sSeq (sAsg (gN 8) (eFrz (lComp (iZipD (aC (eV 6) (aC (eV 7) (aN)))) (gT [gN 10, gN 11]) (tB (e2 oNe (eV 11) (e2 oIx (eV 7) (eC (.int 0))))) (eV 10) [10, 11])))
    (b_uneven_in_l2_3)
def b_uneven_in_l2_1 : Sv := sSeq (sAsg (gN 7) (eFrz (lComp (iA (eV 6)) (gT [gN 2, gN 9]) (tYes) (eB bLen (aC (eCall d_common_in (aC (eV 0) (aC (eV 2) (aC (eV 9) (aN))))) (aN))) [2, 9])))
    (b_uneven_in_l2_2)
def b_uneven_in_l2 : Sv := sSeq (sAsg (gN 6) (eCall d_pairs_in (aC (eV 0) (aC (eV 5) (aN)))))
    (b_uneven_in_l2_1)
def b_uneven_in_4 : Sv := sRet (eC .non)
def b_uneven_in_3 : Sv := sSeq (sFor (iA (eTup (aC (eTup (aC (eC (.str "tied")) (aC (eC (.bl true)) (aN)))) (aC (eTup (aC (eC (.str "untied")) (aC (eC (.bl false)) (aN)))) (aN))))) (gT [gN 4, gN 5]) (b_uneven_in_l2))
    (b_uneven_in_4)
def b_uneven_in_2 : Sv := sSeq (sFor (iEnumV (aC (eV 1) (aN))) (gT [gN 2, gN 3]) (b_uneven_in_l1))
    (b_uneven_in_3)
def b_uneven_in_1 : Sv := sSeq (sIf (tOr (tNot (tT (eV 1))) (tB (e2 oIn (e2 oIx (eV 1) (eC (.int 0))) (eTup (aC (eC (.int 0)) (aC (e2 oSub (e1 (oFld "Web" "places") (eV 0)) (eC (.int 1))) (aN))))))) (sRet (eTup (aC (eC (.str "degree")) (aC (eC (.int 0)) (aN))))) (sPass))
    (b_uneven_in_2)
def b_uneven_in : Sv := sSeq (sAsg (gN 1) (eCall d_degrees_in (aC (eV 0) (aN))))
    (b_uneven_in_1)
def d_uneven_in : Fn := fnP 12 b_uneven_in
def b_uneven_1 : Sv := sRet (eCall d_uneven_in (aC (eV 0) (aN)))
def b_uneven : Sv := sSeq (sExpr (eCall d_need_web (aC (eV 0) (aN))))
    (b_uneven_1)
def d_uneven : Fn := fnP 1 b_uneven
def b_numbers_of_4 : Sv := sRet (eTup (aC (e1 (oFld "Web" "places") (eV 0)) (aC (eB bLen (aC (e2 oIx (e1 (oFld "Web" "near") (eV 0)) (eC (.int 0))) (aN))) (aC (e2 oIx (eV 2) (eC (.int 0))) (aC (e2 oIx (eV 2) (eC (.int 1))) (aN))))))
def b_numbers_of_3 : Sv := sSeq (sAsg (gN 2) (eFrz (lComp (iA (eTup (aC (e2 oIx (eCall d_pairs_in (aC (eV 0) (aC (eC (.bl true)) (aN)))) (eC (.int 0))) (aC (e2 oIx (eCall d_pairs_in (aC (eV 0) (aC (eC (.bl false)) (aN)))) (eC (.int 0))) (aN))))) (gT [gN 3, gN 4]) (tYes) (eB bLen (aC (eCall d_common_in (aC (eV 0) (aC (eV 3) (aC (eV 4) (aN))))) (aN))) [3, 4])))
    (b_numbers_of_4)
def b_numbers_of_2 : Sv := sSeq (sIf (tB (e2 oIsNot (eV 1) (eC .non))) (sRaise "NotKept" ["promise", "witness"] (aC (eC (.str "even")) (aC (eV 1) (aN)))) (sPass))
    (b_numbers_of_3)
def b_numbers_of_1 : Sv := sSeq (sAsg (gN 1) (eCall d_uneven_in (aC (eV 0) (aN))))
    (b_numbers_of_2)
def b_numbers_of : Sv := sSeq (sExpr (eCall d_need_web (aC (eV 0) (aN))))
    (b_numbers_of_1)
def d_numbers_of : Fn := fnP 5 b_numbers_of
def b_all_pairs : Sv := sRet (eFrz (lComp2 (iR1 (aC (eV 0) (aN))) (gN 1) (tYes) (iR2 (aC (e2 oAdd (eV 1) (eC (.int 1))) (aC (eV 0) (aN)))) (gN 2) (tYes) (eTup (aC (eV 1) (aC (eV 2) (aN)))) [1, 2] [2]))
def d_all_pairs : Fn := fnP 3 b_all_pairs
def b_complement_in_1 : Sv := sRet (eCall d_Web (aC (e1 (oFld "Web" "places") (eV 0)) (aC (eB bTuple (aC (eFrz (lComp (iA (eCall d_all_pairs (aC (e1 (oFld "Web" "places") (eV 0)) (aN)))) (gN 3) (tB (e2 oNotIn (eV 3) (eV 1))) (eV 3) [3])) (aN))) (aN))))
def b_complement_in : Sv := sSeq (sAsg (gN 1) (eDcT (iA (e1 (oFld "Web" "ties") (eV 0))) (gN 2) (tYes) (eV 2) (eC (.bl true)) [2]))
    (b_complement_in_1)
def d_complement_in : Fn := fnP 4 b_complement_in
def b_complement_1 : Sv := sRet (eCall d_complement_in (aC (eV 0) (aN)))
def b_complement : Sv := sSeq (sExpr (eCall d_need_web (aC (eV 0) (aN))))
    (b_complement_1)
def d_complement : Fn := fnP 1 b_complement
def b_need_number : Sv := sIf (tNot (tT (eCall d_is_count (aC (eV 1) (aN))))) (sRaise "BadNumber" ["what", "number"] (aC (eV 0) (aC (eV 1) (aN)))) (sPass)
def d_need_number : Fn := fnP 2 b_need_number
def b_web_by_1 : Sv := sRet (eCall d_Web (aC (eV 0) (aC (eB bTuple (aC (eFrz (lB mSortA (aC (eV 2) (aN)))) (aN))) (aN))))
def b_web_by : Sv := sSeq (sAsg (gN 2) (eDcT (iA (eV 1)) (gT [gN 3, gN 4]) (tYes) (eTup (aC (eB bMin2 (aC (eV 3) (aC (eV 4) (aN)))) (aC (eB bMax2 (aC (eV 3) (aC (eV 4) (aN)))) (aN)))) (eC (.bl true)) [3, 4]))
    (b_web_by_1)
def d_web_by : Fn := fnP 5 b_web_by
def b_ring_web_2 : Sv := sRet (eCall d_web_by (aC (eV 0) (aC (eFrz (lComp (iR1 (aC (eV 0) (aN))) (gN 1) (tYes) (eTup (aC (eV 1) (aC (e2 oMod (e2 oAdd (eV 1) (eC (.int 1))) (eV 0)) (aN)))) [1])) (aN))))
def b_ring_web_1 : Sv := sSeq (sIf (tB (e2 oLt (eV 0) (eC (.int 3)))) (sRaise "BadNumber" ["what", "number"] (aC (eC (.str "n")) (aC (eV 0) (aN)))) (sPass))
    (b_ring_web_2)
def b_ring_web : Sv := sSeq (sExpr (eCall d_need_number (aC (eC (.str "n")) (aC (eV 0) (aN)))))
    (b_ring_web_1)
def d_ring_web : Fn := fnP 2 b_ring_web
def b_pairs_web_1 : Sv := sRet (eCall d_Web (aC (e2 oMul (eC (.int 2)) (eV 0)) (aC (eB bTuple (aC (eFrz (lComp (iA (eCall d_all_pairs (aC (e2 oMul (eC (.int 2)) (eV 0)) (aN)))) (gT [gN 1, gN 2]) (tB (e2 oNe (e2 oDiv (eV 1) (eC (.int 2))) (e2 oDiv (eV 2) (eC (.int 2))))) (eTup (aC (eV 1) (aC (eV 2) (aN)))) [1, 2])) (aN))) (aN))))
def b_pairs_web : Sv := sSeq (sExpr (eCall d_need_number (aC (eC (.str "n")) (aC (eV 0) (aN)))))
    (b_pairs_web_1)
def d_pairs_web : Fn := fnP 3 b_pairs_web
def b_counts_in_1 : Sv := sRet (eB bTuple (aC (eFrz (lComp (iA (eV 1)) (gN 2) (tYes) (eB bTuple (aC (eFrz (lComp (iA (eV 1)) (gN 3) (tYes) (eB bLen (aC (eCall d_common_in (aC (eV 0) (aC (eV 2) (aC (eV 3) (aN))))) (aN))) [3])) (aN))) [2])) (aN)))
def b_counts_in : Sv := sSeq (sAsg (gN 1) (eFrz (lRng1 (e1 (oFld "Web" "places") (eV 0)))))
    (b_counts_in_1)
def d_counts_in : Fn := fnP 4 b_counts_in
def b_common_counts_1 : Sv := sRet (eCall d_counts_in (aC (eV 0) (aN)))
def b_common_counts : Sv := sSeq (sExpr (eCall d_need_web (aC (eV 0) (aN))))
    (b_common_counts_1)
def d_common_counts : Fn := fnP 1 b_common_counts
def b_need_place : Sv := sIf (tNot (tT (eCall d_is_place_of (aC (e1 (oFld "Web" "places") (eV 0)) (aC (eV 1) (aN)))))) (sRaise "BadNumber" ["what", "number"] (aC (eC (.str "place")) (aC (eV 1) (aN)))) (sPass)
def d_need_place : Fn := fnP 2 b_need_place
def b_common_near_3 : Sv := sRet (eCall d_common_in (aC (eV 0) (aC (eV 1) (aC (eV 2) (aN)))))
def b_common_near_2 : Sv := sSeq (sExpr (eCall d_need_place (aC (eV 0) (aC (eV 2) (aN)))))
    (b_common_near_3)
def b_common_near_1 : Sv := sSeq (sExpr (eCall d_need_place (aC (eV 0) (aC (eV 1) (aN)))))
    (b_common_near_2)
def b_common_near : Sv := sSeq (sExpr (eCall d_need_web (aC (eV 0) (aN))))
    (b_common_near_1)
def d_common_near : Fn := fnP 3 b_common_near
def b_is_even_1 : Sv := sRet (e2 oIs (eCall d_uneven_in (aC (eV 0) (aN))) (eC .non))
def b_is_even : Sv := sSeq (sExpr (eCall d_need_web (aC (eV 0) (aN))))
    (b_is_even_1)
def d_is_even : Fn := fnP 1 b_is_even
def b_are_numbers_2 : Sv := sRet (eAnd (eCh oLt oLt (eC (.int 0)) (eV 2) (e2 oSub (eV 1) (eC (.int 1)))) (eAnd (e2 oLt (eV 3) (eV 2)) (e2 oLe (eV 4) (eV 2))))
def b_are_numbers_1 : Sv := sSeq (sAsg (gT [gN 1, gN 2, gN 3, gN 4]) (eV 0))
    (b_are_numbers_2)
def b_are_numbers : Sv := sSeq (sIf (tOr (tNot (tT (eIs Ty.tuple (eV 0)))) (tOr (tB (e2 oNe (eB bLen (aC (eV 0) (aN))) (eC (.int 4)))) (tNot (tT (eB bAll (aC (eFrz (lComp (iA (eV 0)) (gN 5) (tYes) (eCall d_is_count (aC (eV 5) (aN))) [5])) (aN))))))) (sRet (eC (.bl false))) (sPass))
    (b_are_numbers_1)
def d_are_numbers : Fn := fnP 6 b_are_numbers
def b_need_numbers : Sv := sIf (tNot (tT (eCall d_are_numbers (aC (eV 0) (aN))))) (sRaise "BadRow" ["row"] (aC (eV 0) (aN))) (sPass)
def d_need_numbers : Fn := fnP 1 b_need_numbers
def b_turned_in_1 : Sv := sRet (eTup (aC (eV 1) (aC (e2 oSub (e2 oSub (eV 1) (eV 2)) (eC (.int 1))) (aC (e2 oSub (e2 oAdd (e2 oSub (eV 1) (e2 oMul (eC (.int 2)) (eV 2))) (eV 4)) (eC (.int 2))) (aC (e2 oAdd (e2 oSub (eV 1) (e2 oMul (eC (.int 2)) (eV 2))) (eV 3)) (aN))))))
def b_turned_in : Sv := sSeq (sAsg (gT [gN 1, gN 2, gN 3, gN 4]) (eV 0))
    (b_turned_in_1)
def d_turned_in : Fn := fnP 5 b_turned_in
def b_turned_numbers_3 : Sv := sRet (eV 1)
def b_turned_numbers_2 : Sv := sSeq (sIf (tB (e2 oLt (eB bMin (aC (eV 1) (aN))) (eC (.int 0)))) (sRaise "NotKept" ["promise", "witness"] (aC (eC (.str "numbers")) (aC (eV 1) (aN)))) (sPass))
    (b_turned_numbers_3)
def b_turned_numbers_1 : Sv := sSeq (sAsg (gN 1) (eCall d_turned_in (aC (eV 0) (aN))))
    (b_turned_numbers_2)
def b_turned_numbers : Sv := sSeq (sExpr (eCall d_need_numbers (aC (eV 0) (aN))))
    (b_turned_numbers_1)
def d_turned_numbers : Fn := fnP 2 b_turned_numbers
def b_need_count : Sv := sIf (tNot (tT (eCall d_is_count (aC (eV 1) (aN))))) (sRaise "BadNumber" ["what", "number"] (aC (eV 0) (aC (eV 1) (aN)))) (sPass)
def d_need_count : Fn := fnP 2 b_need_count
def b_at_two_in_3 : Sv := sRet (eIf (tT (eCall d_are_numbers (aC (eV 4) (aN)))) (eV 4) (eC .non))
def b_at_two_in_2 : Sv := sSeq (sAsg (gN 4) (eTup (aC (e2 oAdd (e2 oAdd (eC (.int 1)) (eV 0)) (e2 oDiv (e2 oMul (eV 0) (e2 oAdd (eV 1) (eC (.int 1)))) (eV 3))) (aC (eV 0) (aC (eV 2) (aC (eV 3) (aN)))))))
    (b_at_two_in_3)
def b_at_two_in_1 : Sv := sSeq (sIf (tOr (tB (e2 oLt (eV 2) (eC (.int 0)))) (tOr (tB (e2 oLt (eV 3) (eC (.int 1)))) (tT (e2 oMod (e2 oMul (eV 0) (e2 oAdd (eV 1) (eC (.int 1)))) (eV 3))))) (sRet (eC .non)) (sPass))
    (b_at_two_in_2)
def b_at_two_in : Sv := sSeq (sPar 2 3 (aC (e2 oSub (e2 oSub (eV 0) (eV 1)) (eC (.int 2))) (aC (e2 oSub (eV 0) (e2 oMul (eC (.int 2)) (eV 1))) aN)))
    (b_at_two_in_1)
def d_at_two_in : Fn := fnP 5 b_at_two_in
def b_numbers_at_two_2 : Sv := sRet (eCall d_at_two_in (aC (eV 0) (aC (eV 1) (aN))))
def b_numbers_at_two_1 : Sv := sSeq (sExpr (eCall d_need_count (aC (eC (.str "r")) (aC (eV 1) (aN)))))
    (b_numbers_at_two_2)
def b_numbers_at_two : Sv := sSeq (sExpr (eCall d_need_count (aC (eC (.str "k")) (aC (eV 0) (aN)))))
    (b_numbers_at_two_1)
def d_numbers_at_two : Fn := fnP 2 b_numbers_at_two
def b_square_of_difference_1 : Sv := sRet (e2 oAdd (e2 oMul (e2 oSub (eV 3) (eV 4)) (e2 oSub (eV 3) (eV 4))) (e2 oMul (eC (.int 4)) (e2 oSub (eV 2) (eV 4))))
def b_square_of_difference : Sv := sSeq (sAsg (gT [gN 1, gN 2, gN 3, gN 4]) (eV 0))
    (b_square_of_difference_1)
def d_square_of_difference : Fn := fnP 5 b_square_of_difference
def b_rays_in_3 : Sv := sRet (eTup (aC (e2 oDiv (e2 oAdd (eV 2) (eV 3)) (eC (.int 2))) (aC (e2 oDiv (e2 oSub (eV 2) (eV 3)) (eC (.int 2))) (aN))))
def b_rays_in_2 : Sv := sSeq (sIf (tOr (tB (e2 oNe (e2 oMul (eV 3) (eV 3)) (eV 1))) (tT (e2 oMod (e2 oAdd (eV 2) (eV 3)) (eC (.int 2))))) (sRet (eC .non)) (sPass))
    (b_rays_in_3)
def b_rays_in_1 : Sv := sSeq (sAsg (gN 3) (eB bSqrt (aC (eV 1) (aN))))
    (b_rays_in_2)
def b_rays_in : Sv := sSeq (sPar 1 2 (aC (eCall d_square_of_difference (aC (eV 0) (aN))) (aC (e2 oSub (e2 oIx (eV 0) (eC (.int 2))) (e2 oIx (eV 0) (eC (.int 3)))) aN)))
    (b_rays_in_1)
def d_rays_in : Fn := fnP 4 b_rays_in
def b_times_in_7 : Sv := sRet (eIf (tB (eCh oLe oLe (eC (.int 0)) (eV 10) (e2 oSub (eV 1) (eC (.int 1))))) (eTup (aC (eV 10) (aC (e2 oSub (e2 oSub (eV 1) (eC (.int 1))) (eV 10)) (aN)))) (eC .non))
def b_times_in_6 : Sv := sSeq (sAsg (gN 10) (e2 oDiv (eV 9) (e2 oSub (eV 7) (eV 8))))
    (b_times_in_7)
def b_times_in_5 : Sv := sSeq (sIf (tOr (tB (e2 oEq (eV 7) (eV 8))) (tT (e2 oMod (eV 9) (e2 oSub (eV 7) (eV 8))))) (sRet (eC .non)) (sPass))
    (b_times_in_6)
def b_times_in_4 : Sv := sSeq (sAsg (gN 9) (e2 oSub (e1 uNeg (eV 2)) (e2 oMul (eV 8) (e2 oSub (eV 1) (eC (.int 1))))))
    (b_times_in_5)
def b_times_in_3 : Sv := sSeq (sAsg (gT [gN 7, gN 8]) (eV 5))
    (b_times_in_4)
def b_times_in_2 : Sv := sSeq (sIf (tB (e2 oIs (eV 5) (eC .non))) (sSeq (sAsg (gN 6) (eAnd (e2 oEq (e2 oMod (e2 oSub (eV 1) (eC (.int 1))) (eC (.int 2))) (eC (.int 0))) (e2 oEq (e2 oAdd (e2 oMul (eC (.int 2)) (eV 2)) (e2 oMul (e2 oSub (eV 1) (eC (.int 1))) (e2 oSub (eV 3) (eV 4)))) (eC (.int 0)))))
    (sRet (eIf (tT (eV 6)) (eTup (aC (e2 oDiv (e2 oSub (eV 1) (eC (.int 1))) (eC (.int 2))) (aC (e2 oDiv (e2 oSub (eV 1) (eC (.int 1))) (eC (.int 2))) (aN)))) (eC .non)))) (sPass))
    (b_times_in_3)
def b_times_in_1 : Sv := sSeq (sAsg (gN 5) (eCall d_rays_in (aC (eV 0) (aN))))
    (b_times_in_2)
def b_times_in : Sv := sSeq (sAsg (gT [gN 1, gN 2, gN 3, gN 4]) (eV 0))
    (b_times_in_1)
def d_times_in : Fn := fnP 11 b_times_in
def b_balanced_in_1 : Sv := sRet (e2 oEq (e2 oMul (eV 2) (e2 oSub (e2 oSub (eV 2) (eV 3)) (eC (.int 1)))) (e2 oMul (e2 oSub (e2 oSub (eV 1) (eV 2)) (eC (.int 1))) (eV 4)))
def b_balanced_in : Sv := sSeq (sAsg (gT [gN 1, gN 2, gN 3, gN 4]) (eV 0))
    (b_balanced_in_1)
def d_balanced_in : Fn := fnP 5 b_balanced_in
def b_can_be_in_4 : Sv := sRet (eOr (e1 uNot (eCh oLt oLt (eC (.int 0)) (eV 5) (eV 3))) (eB bAll (aC (eFrz (lComp (iA (eV 1)) (gN 6) (tYes) (e2 oLe (e2 oMul (eC (.int 2)) (eV 2)) (e2 oMul (eV 6) (e2 oAdd (eV 6) (eC (.int 3))))) [6])) (aN))))
def b_can_be_in_3 : Sv := sSeq (sAsg (gT [gN 2, gN 3, gN 4, gN 5]) (eV 0))
    (b_can_be_in_4)
def b_can_be_in_2 : Sv := sSeq (sIf (tB (e2 oIs (eV 1) (eC .non))) (sRet (eC (.bl false))) (sPass))
    (b_can_be_in_3)
def b_can_be_in_1 : Sv := sSeq (sAsg (gN 1) (eCall d_times_in (aC (eV 0) (aN))))
    (b_can_be_in_2)
def b_can_be_in : Sv := sSeq (sIf (tOr (tNot (tT (eCall d_balanced_in (aC (eV 0) (aN))))) (tB (e2 oLt (eB bMin (aC (eCall d_turned_in (aC (eV 0) (aN))) (aN))) (eC (.int 0))))) (sRet (eC (.bl false))) (sPass))
    (b_can_be_in_1)
def d_can_be_in : Fn := fnP 7 b_can_be_in
def b_is_at_two_1 : Sv := sRet (eAnd (e2 oIsNot (eV 1) (eC .non)) (eAnd (e2 oEq (e2 oIx (eV 1) (eC (.int 1))) (e1 uNeg (eC (.int 2)))) (eAnd (e2 oGt (e2 oIx (eV 0) (eC (.int 3))) (eC (.int 0))) (eCall d_can_be_in (aC (eV 0) (aN))))))
def b_is_at_two : Sv := sSeq (sAsg (gN 1) (eCall d_rays_in (aC (eV 0) (aN))))
    (b_is_at_two_1)
def d_is_at_two : Fn := fnP 2 b_is_at_two
def b_few_at_two_l2_1 : Sv := sIf (tAnd (tB (e2 oIsNot (eV 4) (eC .non))) (tAnd (tB (e2 oLe (e2 oIx (eV 4) (eC (.int 0))) (eV 0))) (tAnd (tT (eCall d_is_at_two (aC (eV 4) (aN)))) (tB (e2 oLe (e2 oIx (eCall d_times_in (aC (eV 4) (aN))) (eC (.int 0))) (eC (.int 7))))))) (sApp (eV 1) (eV 4)) (sPass)
def b_few_at_two_l2 : Sv := sSeq (sAsg (gN 4) (eCall d_at_two_in (aC (eV 2) (aC (eV 3) (aN)))))
    (b_few_at_two_l2_1)
def b_few_at_two_l1 : Sv := sFor (iR1 (aC (e2 oAdd (e2 oDiv (eV 2) (eC (.int 2))) (eC (.int 1))) (aN))) (gN 3) (b_few_at_two_l2)
def b_few_at_two_3 : Sv := sRet (eB bTuple (aC (eFrz (lB mSortA (aC (eV 1) (aN)))) (aN)))
def b_few_at_two_2 : Sv := sSeq (sFor (iR2 (aC (eC (.int 1)) (aC (eV 0) (aN)))) (gN 2) (b_few_at_two_l1))
    (b_few_at_two_3)
def b_few_at_two_1 : Sv := sSeq (sAsg (gN 1) (eMut (lLst (aN))))
    (b_few_at_two_2)
def b_few_at_two : Sv := sSeq (sExpr (eCall d_need_count (aC (eC (.str "most")) (aC (eV 0) (aN)))))
    (b_few_at_two_1)
def d_few_at_two : Fn := fnP 5 b_few_at_two
def b_ray_times_2 : Sv := sRet (eCall d_times_in (aC (eV 0) (aN)))
def b_ray_times_1 : Sv := sSeq (sIf (tNot (tT (eCall d_balanced_in (aC (eV 0) (aN))))) (sRaise "NotKept" ["promise", "witness"] (aC (eC (.str "balanced")) (aC (eC .non) (aN)))) (sPass))
    (b_ray_times_2)
def b_ray_times : Sv := sSeq (sExpr (eCall d_need_numbers (aC (eV 0) (aN))))
    (b_ray_times_1)
def d_ray_times : Fn := fnP 1 b_ray_times
def b_kind_in_told_5 : Sv := sRet (eTup (aC (eC (.str "eight")) (aC (e2 oAdd (e2 oIx (eCall d_times_in (aC (eV 0) (aN))) (eC (.int 0))) (eC (.int 1))) (aN))))
def b_kind_in_told_4 : Sv := sSeq (sIf (tAnd (tB (e2 oGt (eV 5) (eC (.int 2)))) (tB (e2 oEq (eV 0) (eTup (aC (e2 oMul (eV 5) (eV 5)) (aC (e2 oMul (eC (.int 2)) (e2 oSub (eV 5) (eC (.int 1)))) (aC (e2 oSub (eV 5) (eC (.int 2))) (aC (eC (.int 2)) (aN))))))))) (sRet (eTup (aC (eC (.str "squares")) (aC (eV 5) (aN))))) (sPass))
    (b_kind_in_told_5)
def b_kind_in_told_3 : Sv := sSeq (sIf (tAnd (tB (e2 oGt (eV 5) (eC (.int 4)))) (tB (e2 oEq (eV 0) (eTup (aC (e2 oDiv (e2 oMul (eV 5) (e2 oSub (eV 5) (eC (.int 1)))) (eC (.int 2))) (aC (e2 oMul (eC (.int 2)) (e2 oSub (eV 5) (eC (.int 2)))) (aC (e2 oSub (eV 5) (eC (.int 2))) (aC (eC (.int 4)) (aN))))))))) (sRet (eTup (aC (eC (.str "full")) (aC (eV 5) (aN))))) (sPass))
    (b_kind_in_told_4)
def b_kind_in_told_2 : Sv := sSeq (sAsg (gN 5) (e2 oAdd (eV 3) (eC (.int 2))))
    (b_kind_in_told_3)
def b_kind_in_told_1 : Sv := sSeq (sIf (tAnd (tB (e2 oEq (eV 2) (eV 4))) (tAnd (tB (e2 oEq (eV 1) (e2 oAdd (eV 2) (eC (.int 2))))) (tB (e2 oEq (e2 oMod (eV 1) (eC (.int 2))) (eC (.int 0)))))) (sRet (eTup (aC (eC (.str "pairs")) (aC (e2 oDiv (eV 1) (eC (.int 2))) (aN))))) (sPass))
    (b_kind_in_told_2)
def b_kind_in_told : Sv := sSeq (sAsg (gT [gN 1, gN 2, gN 3, gN 4]) (eV 0))
    (b_kind_in_told_1)
def d_kind_in_told : Fn := fnP 6 b_kind_in_told
def b_kind_at_two_1 : Sv := sRet (eIf (tT (eCall d_is_at_two (aC (eV 0) (aN)))) (eCall d_kind_in_told (aC (eV 0) (aN))) (eC .non))
def b_kind_at_two : Sv := sSeq (sExpr (eCall d_need_numbers (aC (eV 0) (aN))))
    (b_kind_at_two_1)
def d_kind_at_two : Fn := fnP 1 b_kind_at_two
def b_are_balanced_1 : Sv := sRet (eCall d_balanced_in (aC (eV 0) (aN)))
def b_are_balanced : Sv := sSeq (sExpr (eCall d_need_numbers (aC (eV 0) (aN))))
    (b_are_balanced_1)
def d_are_balanced : Fn := fnP 1 b_are_balanced
def b_can_be_1 : Sv := sRet (eCall d_can_be_in (aC (eV 0) (aN)))
def b_can_be : Sv := sSeq (sExpr (eCall d_need_numbers (aC (eV 0) (aN))))
    (b_can_be_1)
def d_can_be : Fn := fnP 1 b_can_be
def b_other_rays_1 : Sv := sRet (eCall d_rays_in (aC (eV 0) (aN)))
def b_other_rays : Sv := sSeq (sExpr (eCall d_need_numbers (aC (eV 0) (aN))))
    (b_other_rays_1)
def d_other_rays : Fn := fnP 1 b_other_rays
end Pg
end

section
set_option Elab.async false
set_option linter.all false
set_option maxRecDepth 100000
set_option maxHeartbeats 1000000
/-! WB: comprehensions and loops over typed lists; a def's end. -/
namespace Y
open PySem L2
/-- [F x for x in xs if p x], nothing changed -/
theorem compL_fm {α : Type} {g : Gv} {c : Tv} {e : Ev} {σ : Sl} {h : Hm} (T : α → D) (p : α → Bool) (F : α → D) : ∀ xs : List α, (∀ x ∈ xs, ∃ σ1, g (T x) σ = some σ1 ∧ c σ1 h = .ok (p x) h ∧ (p x = true → e σ1 h = .ok (F x) h)) →
    compL g c e σ (xs.map T) h = .ok ((xs.filter p).map F) h
  | [], _ => rfl
  | x :: xs, H => by
    obtain ⟨σ1, e1, e2, e3⟩ := H x List.mem_cons_self
    have ih := compL_fm T p F xs fun y m => H y (List.mem_cons_of_mem _ m)
    cases hp : p x with
    | true => simp [compL, e1, e2, hp, e3 hp, Rs.bindN, ih]
    | false => simp [compL, e1, e2, hp, Rs.bindN, ih]
theorem compL_m {α : Type} {g : Gv} {e : Ev} {σ : Sl} {h : Hm} (T : α → D) (F : α → D) (xs : List α) (H : ∀ x ∈ xs, ∃ σ1, g (T x) σ = some σ1 ∧ e σ1 h = .ok (F x) h) : compL g tYes e σ (xs.map T) h = .ok (xs.map F) h := by
  have q := compL_fm (g := g) (c := tYes) (e := e) (σ := σ) (h := h) T (fun _ => true) F xs fun x m => by
    obtain ⟨σ1, e1, e2⟩ := H x m
    exact ⟨σ1, e1, rfl, fun _ => e2⟩
  rw [List.filter_eq_self.mpr (by simp)] at q
  exact q
/-- two fors -/
theorem comp2L_m {α : Type} {g : Gv} {m : Sl → Hm → Rs (List D)} {σ : Sl} {h : Hm} (T : α → D) (G : α → List D) : ∀ xs : List α, (∀ x ∈ xs, ∃ σ1, g (T x) σ = some σ1 ∧ m σ1 h = .ok (G x) h) → comp2L g m σ (xs.map T) h = .ok (xs.flatMap G) h
  | [], _ => rfl
  | x :: xs, H => by
    obtain ⟨σ1, e1, e2⟩ := H x List.mem_cons_self
    have ih := comp2L_m T G xs fun y m => H y (List.mem_cons_of_mem _ m)
    simp [comp2L, e1, e2, Rs.bindN, ih]
/-- a loop that changes nothing but its own slots, to its end -/
theorem forL_keep {α : Type} {g : Gv} {b : Sv} {h : Hm} (T : α → D) (S : Sl → Prop) : ∀ (xs : List α) (σ : Sl), S σ → (∀ x ∈ xs, ∀ σ, S σ → ∃ σ1 σ2, g (T x) σ = some σ1 ∧ b σ1 h = .nx σ2 h ∧ S σ2) → ∃ σ', forL g b (xs.map T) σ h = .nx σ' h ∧ S σ'
  | [], σ, s, _ => ⟨σ, rfl, s⟩
  | x :: xs, σ, s, H => by
    obtain ⟨σ1, σ2, e1, e2, s2⟩ := H x List.mem_cons_self σ s
    obtain ⟨σ', e3, s3⟩ := forL_keep T S xs σ2 s2 fun y m => H y (List.mem_cons_of_mem _ m)
    exact ⟨σ', by simp [forL, e1, e2, e3], s3⟩
/-- .. or till it returns -/
theorem forL_ret {α : Type} {g : Gv} {b : Sv} {h : Hm} (T : α → D) (S : Sl → Prop) (p : α → Option D) : ∀ (xs : List α) (σ : Sl), S σ →
    (∀ x ∈ xs, ∀ σ, S σ → ∃ σ1, g (T x) σ = some σ1 ∧ match p x with | some d => b σ1 h = .rt d h | none => ∃ σ2, b σ1 h = .nx σ2 h ∧ S σ2) →
    match xs.findSome? p with | some d => forL g b (xs.map T) σ h = .rt d h | none => ∃ σ', forL g b (xs.map T) σ h = .nx σ' h ∧ S σ'
  | [], σ, s, _ => ⟨σ, rfl, s⟩
  | x :: xs, σ, s, H => by
    obtain ⟨σ1, e1, e2⟩ := H x List.mem_cons_self σ s
    cases hp : p x with
    | some d =>
      rw [hp] at e2
      simp [List.findSome?_cons, hp, forL, e1, e2]
    | none =>
      rw [hp] at e2
      obtain ⟨σ2, e2, s2⟩ := e2
      have ih := forL_ret T S p xs σ2 s2 fun y m => H y (List.mem_cons_of_mem _ m)
      simp only [List.findSome?_cons, hp]
      cases hq : xs.findSome? p with
      | some d => rw [hq] at ih; simpa [forL, e1, e2] using ih
      | none => rw [hq] at ih; simpa [forL, e1, e2] using ih
theorem rangeD_eq (n : Nat) : rangeD 0 n = (List.range n).map fun i => D.int (i : Nat) := by simp [rangeD]
theorem rangeD_at (i n : Nat) : rangeD (i : Nat) n = (List.range' i n).map fun j => D.int (j : Nat) := by
  rw [rangeD, List.range'_eq_map_range, List.map_map]
  apply List.map_congr_left
  intro j _
  simp
theorem seal_app (h l : Hm) : sealed h.length h (h ++ l) = true := by
  have aux : ∀ h : Hm, (h.zip h).all (fun p => decide (p.1 = p.2) || Ob.low (h ++ l).length p.1) = true := fun h => by
    rw [List.all_eq_true]
    intro p hp
    have : p.1 = p.2 := by
      clear l
      induction h with
      | nil => simp at hp
      | cons a h ih =>
        simp only [List.zip_cons_cons, List.mem_cons] at hp
        rcases hp with rfl | hp
        · rfl
        · exact ih hp
    simp [this]
  unfold sealed
  rw [List.take_left, List.all_eq_true]
  intro p hp
  have := List.all_eq_true.mp (aux h) p hp
  have e : p.1 = p.2 := by
    clear aux this l
    induction h with
    | nil => simp at hp
    | cons a h ih =>
      simp only [List.zip_cons_cons, List.mem_cons] at hp
      rcases hp with rfl | hp
      · rfl
      · exact ih hp
  simp [e]
/-- a def forgets what it made -/
theorem fin_app {h l : Hm} {d : D} (hd : D.low h.length d = true) : finP h d (h ++ l) = .ok d h := by
  unfold finP
  split
  · rename_i q
    have : l = [] := by
      have : (h ++ l).length = h.length + l.length := by simp
      cases l with
      | nil => rfl
      | cons _ _ => simp at this; simp at q
    simp [this]
  · rw [hd, seal_app]
    simp
theorem fin_same {h : Hm} {d : D} : finP h d h = .ok d h := by simp [finP]
/-- .. where an elder one was changed -/
theorem fin_one {o o' : Ob} {l : Hm} {d : D} (hd : D.low 1 d = true) (ho : Ob.low 1 o' = true) : finP [o] d (o' :: l) = .ok d [o'] := by
  unfold finP
  split
  · rename_i q
    have : l = [] := by simpa using q
    simp [this]
  · simp [hd, sealed, ho]
/-- tuples of numbers -/
def nD (p : Nat) : D := .int (p : Nat)
def rowN (r : List Nat) : D := .tup (r.map nD)
def tD (t : Nat × Nat) : D := .tup [nD t.1, nD t.2]
theorem low_ints (n : Nat) : ∀ r : List Nat, D.lowL n (r.map nD) = true
  | [] => rfl
  | x :: r => by simp [D.lowL, D.low, nD, low_ints n r]
theorem low_rows (n : Nat) : ∀ r : List (List Nat), D.lowL n (r.map rowN) = true
  | [] => rfl
  | x :: r => by simp [D.lowL, D.low, rowN, low_ints n x, low_rows n r]
theorem low_ties (n : Nat) : ∀ r : List (Nat × Nat), D.lowL n (r.map tD) = true
  | [] => rfl
  | x :: r => by simp [D.lowL, D.low, tD, nD, low_ties n r]
theorem ints_nD : ∀ r : List Nat, intsOf (r.map nD) = some (r.map fun (x : Nat) => (x : Int))
  | [] => rfl
  | x :: r => by simp [intsOf, nD, ints_nD r]
theorem at_nat {xs : List D} {i : Nat} : L2.atI xs (i : Nat) = xs[i]? := by
  unfold L2.atI L2.ixN
  rw [if_pos (by omega)]
  by_cases h : i < xs.length
  · rw [if_pos (by omega), Option.bind_some]; simp
  · rw [if_neg (by omega)]
    simp [List.getElem?_eq_none (Nat.le_of_not_lt h)]
theorem ix_tup {h : Hm} {xs : List D} {i : Nat} : oIx h (.tup xs) (.int (i : Nat)) = xs[i]? := by
  simp [oIx, dctOf, ixD, seqOf, at_nat]
theorem ix_fl {h : Hm} {xs : List D} {i : Nat} : oIx h (.fl xs) (.int (i : Nat)) = xs[i]? := by
  simp [oIx, dctOf, ixD, seqOf, lstOf, at_nat]
theorem bools_map {α : Type} (p : α → Bool) : ∀ xs : List α, bools (xs.map fun x => D.bl (p x)) = some (xs.map p)
  | [] => rfl
  | x :: xs => by simp [bools, bools_map p xs]
theorem pyL_nD (h : Hm) : ∀ r : List Nat, pyL h (r.map nD) = some (r.map fun (x : Nat) => PyData.int x)
  | [] => rfl
  | x :: r => by simp [pyL, py, nD, pyL_nD h r]
theorem can_nD : ∀ r : List Nat, PyData.canLayAll0 (r.map fun (x : Nat) => PyData.int x) = true
  | [] => rfl
  | x :: r => by simp [PyData.canLayAll0, PyData.canLay0, can_nD r]
theorem dep_nD : ∀ r : List Nat, PyData.depthAll (r.map fun (x : Nat) => PyData.int x) = 0
  | [] => rfl
  | x :: r => by simp [PyData.depthAll, PyData.depth, dep_nD r]
theorem any_nD (x : Nat) : ∀ r : List Nat, ((r.map fun (y : Nat) => PyData.int y).any fun z => PyData.eqv z (.int x)) = decide (x ∈ r)
  | [] => rfl
  | y :: r => by
    rw [List.map_cons, List.any_cons, any_nD x r]
    by_cases e : y = x
    · subst e; simp [PyData.eqv]
    · have : ((y : Int) == (x : Int)) = false := by simp; omega
      simp [PyData.eqv, this, Ne.symm e]
theorem inD_nD {h : Hm} {x : Nat} {r : List Nat} : inD h (nD x) (rowN r) = some (decide (x ∈ r)) := by
  have e : py h (nD x) = some (.int x) := rfl
  have sh : SeqAt.shaped (.list (r.map fun (x : Nat) => PyData.int x)) = true := by simp [SeqAt.shaped, PyData.canLay0, PyData.depth, can_nD, dep_nD]
  have sx : SeqAt.shaped (.int (x : Int)) = true := by simp [SeqAt.shaped, PyData.canLay0, PyData.depth]
  simp only [inD, dctOf, dtuOf, rowN, seqOf, e, pyL_nD, sh, sx, Bool.and_self, if_true, any_nD]
end Y
end

section
set_option Elab.async false
set_option linter.all false
set_option maxRecDepth 100000
set_option maxHeartbeats 1000000
/-! WC: near_lots. -/
namespace Pg
open PySem Y L2
/-- one tie is entered -/
def step (rows : List (List Nat)) (t : Nat × Nat) : List (List Nat) := (rows.modify t.1 (· ++ [t.2])).modify t.2 (· ++ [t.1])
def lots (rows : List (List Nat)) : Hm := rows.map fun r => .lst (r.map nD)
def locs (k n : Nat) : List D := (List.range n).map fun i => .loc (k + i)
theorem comp_new (σ : Sl) (i : Nat) : ∀ (ds : List D) (h : Hm), compL (gN i) Y.tYes (eMut (lLst aN)) σ ds h = .ok (locs h.length ds.length) (h ++ List.replicate ds.length (.lst []))
  | [], h => by simp [compL, locs]
  | d :: ds, h => by
    have ih := comp_new σ i ds (h ++ [.lst []])
    have e : locs h.length (ds.length + 1) = .loc h.length :: locs (h.length + 1) ds.length := by
      simp only [locs, List.range_succ_eq_map, List.map_cons, List.map_map, Nat.add_zero]
      congr 1
      apply List.map_congr_left
      intro j _
      simp only [Function.comp]
      congr 1
      omega
    simp [compL, gN, Y.tYes, eMut, lLst, aN, Rs.bind, Rs.bindN, ih, e, List.replicate_succ]
theorem app_get {h l : Hm} {p : Nat} : (h ++ l)[h.length + p]? = l[p]? := by rw [List.getElem?_append_right (by omega)]; congr 1; omega
theorem app_set {h l : Hm} {p : Nat} {o : Ob} : (h ++ l).set (h.length + p) o = h ++ l.set p o := by rw [List.set_append_right _ _ (by omega)]; congr 2; omega
theorem lots_get {rows : List (List Nat)} {p : Nat} {r : List Nat} (e : rows[p]? = some r) : (lots rows)[p]? = some (.lst (r.map nD)) := by simp [lots, e]
theorem lots_set {rows : List (List Nat)} {p x : Nat} {r : List Nat} (e : rows[p]? = some r) : (lots rows).set p (.lst (r.map nD ++ [nD x])) = lots (rows.modify p (· ++ [x])) := by
  apply List.ext_getElem?
  intro j
  by_cases hj : j = p
  · subst hj
    obtain ⟨l1, l2⟩ := List.getElem?_eq_some_iff.mp e
    rw [List.getElem?_set_self (by simpa [lots] using l1)]
    simp [lots, List.getElem?_modify, e]
  · rw [List.getElem?_set_ne (Ne.symm hj)]
    simp [lots, List.getElem?_modify, Ne.symm hj]
/-- found[p].append(x) -/
theorem push {h : Hm} {rows : List (List Nat)} {n p x i : Nat} {σ : Sl} {fp fx : Ev} (h2 : σ[i]? = some (some (.fl (locs h.length n)))) (hp : ∀ h', fp σ h' = .ok (nD p) h') (hx : ∀ h', fx σ h' = .ok (nD x) h') (hl : rows.length = n) (lt : p < n) (small : ∀ r ∈ rows, r.length < 1000000) :
    sApp (Y.e2 oIx (eV i) fp) fx σ (h ++ lots rows) = .nx σ (h ++ lots (rows.modify p (· ++ [x]))) := by
  obtain ⟨r, er⟩ : ∃ r, rows[p]? = some r := ⟨rows[p], List.getElem?_eq_getElem (by omega)⟩
  have e1 : (locs h.length n)[p]? = some (.loc (h.length + p)) := by simp [locs, lt]
  have e2 : oIx (h ++ lots rows) (.fl (locs h.length n)) (nD p) = some (.loc (h.length + p)) := by rw [nD, ix_fl, e1]
  have e3 : (h ++ lots rows)[h.length + p]? = some (.lst (r.map nD)) := by rw [app_get, lots_get er]
  have e4 : r.length < line := Nat.lt_of_lt_of_le (small r (List.mem_of_getElem? er)) (by decide)
  simp only [sApp, Y.e2, eV, h2, hp, hx, Rs.bind, Rs.out, e2, ofO, isLst, e3, if_true, appD, List.length_map, e4, app_set, lots_set er]
theorem step_len (rows : List (List Nat)) (t : Nat × Nat) : (step rows t).length = rows.length := by simp [step]
theorem near_loop {h : Hm} {n : Nat} {s0 s1 s5 : Option D} : ∀ (ts : List (Nat × Nat)) (rows : List (List Nat)) (a b : Option D), rows.length = n → (∀ t ∈ ts, t.1 < n ∧ t.2 < n) → (∀ r ∈ rows, r.length + 2 * ts.length < 1000000) →
    ∃ a' b', forL (gT [gN 3, gN 4]) b_near_lots_l1 (ts.map tD) [s0, s1, some (.fl (locs h.length n)), a, b, s5] (h ++ lots rows) = .nx [s0, s1, some (.fl (locs h.length n)), a', b', s5] (h ++ lots (ts.foldl step rows))
  | [], rows, a, b, _, _, _ => ⟨a, b, rfl⟩
  | t :: ts, rows, a, b, hl, ht, hr => by
    obtain ⟨l1, l2⟩ := ht t List.mem_cons_self
    have sm : ∀ r ∈ step rows t, r.length + 2 * ts.length < 1000000 := by
      intro r hm
      obtain ⟨j, hj⟩ := List.getElem?_of_mem hm
      simp only [step, List.getElem?_modify] at hj
      cases e : rows[j]? with
      | none => simp [e] at hj
      | some r0 =>
        have := hr r0 (List.mem_of_getElem? e)
        simp only [List.length_cons] at this
        simp only [e] at hj
        by_cases c1 : t.1 = j <;> by_cases c2 : t.2 = j <;> simp [c1, c2] at hj <;> subst hj <;> simp <;> omega
    obtain ⟨a', b', ih⟩ := near_loop (h := h) (s0 := s0) (s1 := s1) (s5 := s5) ts (step rows t) (some (nD t.1)) (some (nD t.2)) (by rw [step_len, hl]) (fun t m => ht t (List.mem_cons_of_mem _ m)) sm
    refine ⟨a', b', ?_⟩
    rw [List.foldl_cons, ← ih]
    have p1 := push (h := h) (rows := rows) (n := n) (p := t.1) (x := t.2) (i := 2) (σ := [s0, s1, some (.fl (locs h.length n)), some (nD t.1), some (nD t.2), s5]) (fp := eV 3) (fx := eV 4) rfl (fun _ => rfl) (fun _ => rfl) hl l1 (fun r m => by have := hr r m; omega)
    have p2 := push (h := h) (rows := rows.modify t.1 (· ++ [t.2])) (n := n) (p := t.2) (x := t.1) (i := 2) (σ := [s0, s1, some (.fl (locs h.length n)), some (nD t.1), some (nD t.2), s5]) (fp := eV 4) (fx := eV 3) rfl (fun _ => rfl) (fun _ => rfl) (by simp [hl]) l2 (fun r hm => by
      obtain ⟨j, hj⟩ := List.getElem?_of_mem hm
      simp only [List.getElem?_modify] at hj
      cases e : rows[j]? with
      | none => simp [e] at hj
      | some r0 =>
        have := hr r0 (List.mem_of_getElem? e)
        simp only [List.length_cons] at this
        simp only [e] at hj
        by_cases c1 : t.1 = j <;> simp [c1] at hj <;> subst hj <;> simp <;> omega)
    simp only [List.map_cons, forL, gT, tD, gTs, gN, Option.bind_some, List.set_cons_succ, List.set_cons_zero, b_near_lots_l1, b_near_lots_l1_1, sSeq, p1, p2, step]
/-- p's row behind the loop -/
def nb (p : Nat) (t : Nat × Nat) : List Nat := (if t.1 = p then [t.2] else []) ++ (if t.2 = p then [t.1] else [])
theorem row_of (p : Nat) : ∀ (ts : List (Nat × Nat)) (rows : List (List Nat)) (r : List Nat), rows[p]? = some r → (ts.foldl step rows)[p]? = some (r ++ ts.flatMap (nb p))
  | [], rows, r, e => by simpa using e
  | t :: ts, rows, r, e => by
    have e1 : (step rows t)[p]? = some (r ++ nb p t) := by
      simp only [step, List.getElem?_modify, e, nb]
      by_cases c1 : t.1 = p <;> by_cases c2 : t.2 = p <;> simp [c1, c2]
    rw [List.foldl_cons, row_of p ts _ _ e1]
    simp
def adj (ts : List (Nat × Nat)) (p q : Nat) : Bool := decide ((p, q) ∈ ts ∨ (q, p) ∈ ts)
def nearOf (n : Nat) (ts : List (Nat × Nat)) : List (List Nat) := (List.range n).map fun p => (List.range n).filter (adj ts p)
theorem sort_eq {l m : List Nat} (hp : l.Perm m) (hs : m.Pairwise (· ≤ ·)) : intsL (l.map fun (x : Nat) => (x : Int)) = m.map fun (x : Nat) => (x : Int) := by
  have h1 : (intsL (l.map fun (x : Nat) => (x : Int))).Perm (m.map fun (x : Nat) => (x : Int)) := (isort_perm _ _).trans (hp.map _)
  have h2 : (intsL (l.map fun (x : Nat) => (x : Int))).Pairwise (fun a b => decide (a ≤ b) = true) := isort_sorted (fun a b c h1 h2 => by simp at *; omega) (fun a b => by simp; omega) _
  have h3 : (m.map fun (x : Nat) => (x : Int)).Pairwise (fun a b => decide (a ≤ b) = true) := by
    rw [List.pairwise_map]
    exact hs.imp fun h => by simp; omega
  exact h1.eq_of_pairwise (fun a b _ _ x y => by simp at x y; omega) h2 h3
theorem mem_nb {p : Nat} {ts : List (Nat × Nat)} {x : Nat} : x ∈ ts.flatMap (nb p) ↔ (p, x) ∈ ts ∨ (x, p) ∈ ts := by
  rw [List.mem_flatMap]
  constructor
  · rintro ⟨⟨a, b⟩, m, hx⟩
    simp only [nb, List.mem_append] at hx
    rcases hx with hx | hx
    · split at hx
      · rename_i e; simp at hx e; subst hx e; exact .inl m
      · simp at hx
    · split at hx
      · rename_i e; simp at hx e; subst hx e; exact .inr m
      · simp at hx
  · rintro (m | m)
    · exact ⟨_, m, by simp [nb]⟩
    · exact ⟨_, m, by simp [nb]⟩
theorem nd_nb {p : Nat} : ∀ {ts : List (Nat × Nat)}, ts.Nodup → (∀ t ∈ ts, t.1 < t.2) → (ts.flatMap (nb p)).Nodup
  | [], _, _ => by simp
  | t :: ts, nd, ht => by
    obtain ⟨n1, n2⟩ := List.nodup_cons.mp nd
    have lt := ht t List.mem_cons_self
    rw [List.flatMap_cons, List.nodup_append]
    refine ⟨?_, nd_nb n2 fun t m => ht t (List.mem_cons_of_mem _ m), fun x hx y hy e => ?_⟩
    · unfold nb
      by_cases c1 : t.1 = p <;> by_cases c2 : t.2 = p <;> simp [c1, c2]
      omega
    · subst e
      have hx' : (p, x) = t ∨ (x, p) = t := by
        have := (mem_nb (p := p) (ts := [t]) (x := x)).mp (by simpa using hx)
        simpa [eq_comm] using this
      rcases mem_nb.mp hy with m | m
      · have l2 := ht _ (List.mem_cons_of_mem _ m)
        rcases hx' with e | e
        · subst e; exact n1 m
        · subst e; simp at lt l2; omega
      · have l2 := ht _ (List.mem_cons_of_mem _ m)
        rcases hx' with e | e
        · subst e; simp at lt l2; omega
        · subst e; exact n1 m
theorem row_perm {n p : Nat} {ts : List (Nat × Nat)} (nd : ts.Nodup) (ht : ∀ t ∈ ts, t.1 < t.2 ∧ t.2 < n) : (ts.flatMap (nb p)).Perm ((List.range n).filter (adj ts p)) := by
  rw [List.perm_ext_iff_of_nodup (nd_nb nd fun t m => (ht t m).1) (List.Pairwise.filter (adj ts p) List.nodup_range)]
  intro x
  rw [mem_nb, List.mem_filter, List.mem_range]
  constructor
  · intro h
    refine ⟨?_, by simpa [adj] using h⟩
    rcases h with m | m
    · exact (ht _ m).2
    · have := ht _ m; simp at this; omega
  · rintro ⟨_, h⟩
    simpa [adj] using h
theorem row_sort {n p : Nat} {ts : List (Nat × Nat)} (nd : ts.Nodup) (ht : ∀ t ∈ ts, t.1 < t.2 ∧ t.2 < n) : intsL ((ts.flatMap (nb p)).map fun (x : Nat) => (x : Int)) = ((List.range n).filter (adj ts p)).map fun (x : Nat) => (x : Int) :=
  sort_eq (row_perm nd ht) ((List.Pairwise.filter _ List.pairwise_lt_range).imp fun h => by omega)
theorem small_nat {n : Nat} (h : n < 1000000) : small (n : Int) = true := by
  unfold small
  rw [decide_eq_true_eq, Int.natAbs_natCast]
  by_cases e : n = 0
  · subst e; decide
  · rw [Nat.log2_lt e]; omega
theorem lots_new (n : Nat) : List.replicate n (Ob.lst []) = lots (List.replicate n []) := by simp [lots]
/-- near_lots -/
theorem near {n : Nat} {ts : List (Nat × Nat)} (h : Hm) (nd : ts.Nodup) (ht : ∀ t ∈ ts, t.1 < t.2 ∧ t.2 < n) (hn : n < 1000) (hl : ts.length < 100000) : d_near_lots [nD n, .tup (ts.map tD)] h = .ok (.tup ((nearOf n ts).map rowN)) h := by
  have s1 : small (n : Int) = true := small_nat (by omega)
  have s2 : (n ≤ line) = True := Y.ll n (by omega)
  obtain ⟨a', b', e1⟩ := near_loop (h := h) (n := n) (s0 := some (nD n)) (s1 := some (.tup (ts.map tD))) (s5 := none) ts (List.replicate n []) none none (by simp) (fun t m => ⟨by have := ht t m; omega, (ht t m).2⟩) (fun r m => by
    have : r = [] := (List.mem_replicate.mp m).2
    subst this
    simp; omega)
  have e2 : compL (gN 5) Y.tYes (eB bTuple (aC (eFrz (lB mSortA (aC (eV 5) (aN)))) (aN))) [some (nD n), some (.tup (ts.map tD)), some (.fl (locs h.length n)), a', b', none] (locs h.length n) (h ++ lots (ts.foldl step (List.replicate n []))) =
      .ok ((List.range n).map fun p => rowN ((List.range n).filter (adj ts p))) (h ++ lots (ts.foldl step (List.replicate n []))) := by
    refine compL_m (fun i => .loc (h.length + i)) _ _ fun p hp => ⟨_, rfl, ?_⟩
    have lt := List.mem_range.mp hp
    have er := row_of p ts (List.replicate n []) [] (by simp [lt])
    rw [List.nil_append] at er
    have eg : (h ++ lots (ts.foldl step (List.replicate n [])))[h.length + p]? = some (.lst ((ts.flatMap (nb p)).map nD)) := by rw [app_get, lots_get er]
    simp [eB, lB, eFrz, aC, aN, eV, Rs.bind, mSortA, mSorted, keysD, dtuOf, lstOf, eg, sortD, ints_nD, row_sort nd ht, ofO, bTuple, rowN, nD]
  have e3 : D.low h.length (.tup ((nearOf n ts).map rowN)) = true := by simp [D.low, low_rows]
  have e4 := comp_new [some (nD n), some (.tup (ts.map tD)), none, none, none, none] 3 (rangeD 0 n) h
  have e5 : (rangeD 0 n).length = n := by simp [rangeD]
  rw [e5, lots_new] at e4
  have e6 : iA (eV 2) [some (nD n), some (.tup (ts.map tD)), some (.fl (locs h.length n)), a', b', none] (h ++ lots (ts.foldl step (List.replicate n []))) = .ok (locs h.length n) (h ++ lots (ts.foldl step (List.replicate n []))) := by simp [iA, eV, Rs.bind, seqOf, lstOf, ofO]
  have c1 : lComp (iR1 (aC (eV 0) (aN))) (gN 3) Y.tYes (eMut (lLst (aN))) [3] [some (nD n), some (.tup (ts.map tD)), none, none, none, none] h = .ok (locs h.length n) (h ++ lots (List.replicate n [])) := by
    have l1 : (locs h.length n).length = n := by simp [locs]
    have e0 : iR1 (aC (eV 0) (aN)) [some (nD n), some (.tup (ts.map tD)), none, none, none, none] h = .ok (rangeD 0 n) h := by simp [iR1, aC, aN, eV, Rs.bind, nD, s1]
    simp only [lComp, e0, Rs.bind, unset, List.set_cons_succ, List.set_cons_zero, e4, l1, s2, if_true]
  have c2 : lComp (iA (eV 2)) (gN 5) Y.tYes (eB bTuple (aC (eFrz (lB mSortA (aC (eV 5) (aN)))) (aN))) [5] [some (nD n), some (.tup (ts.map tD)), some (.fl (locs h.length n)), a', b', none] (h ++ lots (ts.foldl step (List.replicate n []))) =
      .ok ((nearOf n ts).map rowN) (h ++ lots (ts.foldl step (List.replicate n []))) := by
    have l1 : ((List.range n).map fun p => rowN ((List.range n).filter (adj ts p))).length = n := by simp
    simp only [lComp, e6, Rs.bind, unset, List.set_cons_succ, List.set_cons_zero, e2, l1, s2, if_true]
    simp [nearOf]
  have e7 : iA (eV 1) [some (nD n), some (.tup (ts.map tD)), some (.fl (locs h.length n)), none, none, none] (h ++ lots (List.replicate n [])) = .ok (ts.map tD) (h ++ lots (List.replicate n [])) := by simp [iA, eV, Rs.bind]
  simp only [d_near_lots, b_near_lots, b_near_lots_1, b_near_lots_2, fnP, startD, List.map_cons, List.map_nil, List.length_cons, List.length_nil, List.cons_append, List.nil_append, List.replicate, sSeq, sAsg, sFor, sRet, eFrz, c1, Rs.bind, Rs.out, outO, gN, List.set_cons_succ, List.set_cons_zero, e7, e1, eB, aC, aN, c2, bTuple, lstOf, ofO, Option.map_some]
  exact fin_app e3
end Pg
end

section
set_option Elab.async false
set_option linter.all false
set_option maxRecDepth 100000
set_option maxHeartbeats 1000000
/-! WD: Web and its tests. -/
namespace Pg
open PySem Y L2
section
variable {h : Hm} {n p q : Nat} {t : Nat × Nat} {ts : List (Nat × Nat)}
theorem whole (i : Int) : d_is_whole [.int i] h = .ok (.bl true) h := by simp [d_is_whole, b_is_whole, fnP, fnK, startD, sSeq, sAsg, sPar, sRet, sRetN, sIf, sExpr, sPass, eV, Rs.out, Rs.bind, Rs.bindN, outO, gT, gTs, gN, Y.e1, Y.e2, eC, aN, aC, eTup, lLst, eFrz, eMut, oMul, oSub, oAdd, oEq, oNe, oLt, oLe, oGt, oGe, oIs, oIsNot, isN, oDiv, oMod, uNeg, uNot, uRev, eqD, ofO, finP, Y.tB, Y.tT, Y.tAnd, Y.tOr, Y.tNot, Y.tYes, eAnd, eOr, eIf, eCh, truth, eB, lB, eIs, eCall, lCall, instD, bLen, bInt, seqOf, lstOf, ownL, oIx, ixD, dctOf, atI, ixN, bMin, bMax, intsOf, minI, maxI, bAll, bAny, bools, lComp, compL, iA, unset, ll, Y.oFld, Y.isO, Y.oIn, Y.oNotIn, Y.sRaise, List.lookup, List.zip, List.zipWith]
theorem count (i : Int) : d_is_count [.int i] h = .ok (.bl (decide (0 ≤ i))) h := by simp [d_is_count, b_is_count, whole, fnP, fnK, startD, sSeq, sAsg, sPar, sRet, sRetN, sIf, sExpr, sPass, eV, Rs.out, Rs.bind, Rs.bindN, outO, gT, gTs, gN, Y.e1, Y.e2, eC, aN, aC, eTup, lLst, eFrz, eMut, oMul, oSub, oAdd, oEq, oNe, oLt, oLe, oGt, oGe, oIs, oIsNot, isN, oDiv, oMod, uNeg, uNot, uRev, eqD, ofO, finP, Y.tB, Y.tT, Y.tAnd, Y.tOr, Y.tNot, Y.tYes, eAnd, eOr, eIf, eCh, truth, eB, lB, eIs, eCall, lCall, instD, bLen, bInt, seqOf, lstOf, ownL, oIx, ixD, dctOf, atI, ixN, bMin, bMax, intsOf, minI, maxI, bAll, bAny, bools, lComp, compL, iA, unset, ll, Y.oFld, Y.isO, Y.oIn, Y.oNotIn, Y.sRaise, List.lookup, List.zip, List.zipWith]
theorem count_n : d_is_count [nD n] h = .ok (.bl true) h := by rw [nD, count]; simp
theorem place (i : Int) : d_is_place_of [nD n, .int i] h = .ok (.bl (decide (0 ≤ i ∧ i < n))) h := by
  by_cases c : 0 ≤ i <;> simp [d_is_place_of, b_is_place_of, count, nD, c, fnP, fnK, startD, sSeq, sAsg, sPar, sRet, sRetN, sIf, sExpr, sPass, eV, Rs.out, Rs.bind, Rs.bindN, outO, gT, gTs, gN, Y.e1, Y.e2, eC, aN, aC, eTup, lLst, eFrz, eMut, oMul, oSub, oAdd, oEq, oNe, oLt, oLe, oGt, oGe, oIs, oIsNot, isN, oDiv, oMod, uNeg, uNot, uRev, eqD, ofO, finP, Y.tB, Y.tT, Y.tAnd, Y.tOr, Y.tNot, Y.tYes, eAnd, eOr, eIf, eCh, truth, eB, lB, eIs, eCall, lCall, instD, bLen, bInt, seqOf, lstOf, ownL, oIx, ixD, dctOf, atI, ixN, bMin, bMax, intsOf, minI, maxI, bAll, bAny, bools, lComp, compL, iA, unset, ll, Y.oFld, Y.isO, Y.oIn, Y.oNotIn, Y.sRaise, List.lookup, List.zip, List.zipWith]
theorem place_n : d_is_place_of [nD n, nD p] h = .ok (.bl (decide (p < n))) h := by
  have : decide (0 ≤ (p : Int) ∧ (p : Int) < n) = decide (p < n) := by simp
  rw [← this]; exact place (p : Int)
theorem tie_ok (h1 : t.1 < t.2) (h2 : t.2 < n) : d_is_tie [nD n, tD t] h = .ok (.bl true) h := by
  have l1 : t.1 < n := by omega
  have e2 : oLt h (nD t.1) (nD t.2) = some (.bl true) := by simp [oLt, nD, h1]
  simp [d_is_tie, b_is_tie, b_is_tie_1, tD, place_n, l1, h2, e2, fnP, fnK, startD, sSeq, sAsg, sPar, sRet, sRetN, sIf, sExpr, sPass, eV, Rs.out, Rs.bind, Rs.bindN, outO, gT, gTs, gN, Y.e1, Y.e2, eC, aN, aC, eTup, lLst, eFrz, eMut, oMul, oSub, oAdd, oEq, oNe, oLe, oGt, oGe, oIs, oIsNot, isN, oDiv, oMod, uNeg, uNot, uRev, eqD, ofO, finP, Y.tB, Y.tT, Y.tAnd, Y.tOr, Y.tNot, Y.tYes, eAnd, eOr, eIf, eCh, truth, eB, lB, eIs, eCall, lCall, instD, bLen, bInt, seqOf, lstOf, ownL, dctOf, bMin, bMax, intsOf, minI, maxI, bAll, bAny, bools, lComp, compL, iA, unset, ll, Y.oFld, Y.isO, Y.oIn, Y.oNotIn, Y.sRaise, List.lookup, List.zip, List.zipWith, oIx, dctOf, ixD, seqOf, at_nat, show ∀ xs, L2.atI xs (0:Int) = xs[0]? from fun xs => at_nat (i := 0), show ∀ xs, L2.atI xs (1:Int) = xs[1]? from fun xs => at_nat (i := 1)]
theorem cut1 (xs : List D) : cutD xs (some 1) none = xs.tail := by
  have e : HT.sIx xs.length 0 (some 1) = min 1 xs.length := HT.sIx_nat xs.length 0 1
  have e' : HT.sIx xs.length xs.length none = xs.length := rfl
  unfold cutD
  rw [e, e']
  cases xs with
  | nil => rfl
  | cons x xs => simp
/-- ascending -/
def lt2 (a b : Nat × Nat) : Prop := a.1 < b.1 ∨ (a.1 = b.1 ∧ a.2 < b.2)
structure Ties (n : Nat) (ts : List (Nat × Nat)) : Prop where
  ok : ∀ t ∈ ts, t.1 < t.2 ∧ t.2 < n
  asc : ts.Pairwise lt2
theorem Ties.nd (T : Ties n ts) : ts.Nodup := T.asc.imp fun {a b} h e => by
  subst e
  rcases h with h | h <;> omega
theorem lt2_lex {a b : Nat × Nat} (h : lt2 a b) : HT.lexLt [(a.1 : Int), (a.2 : Int)] [(b.1 : Int), (b.2 : Int)] = true := by
  rcases h with h | ⟨h1, h2⟩
  · rw [HT.lexLt_cons, if_neg (by omega)]; exact decide_eq_true (by omega)
  · rw [HT.lexLt_cons, if_pos (by omega), HT.lexLt_cons, if_neg (by omega)]; exact decide_eq_true (by omega)
theorem pairs_asc : ∀ {ts : List (Nat × Nat)}, ts.Pairwise lt2 → ∃ us : List ((Nat × Nat) × (Nat × Nat)), pairsD (ts.map tD) (ts.map tD).tail = us.map (fun u => .tup [tD u.1, tD u.2]) ∧ ∀ u ∈ us, lt2 u.1 u.2
  | [], _ => ⟨[], rfl, by simp⟩
  | [a], _ => ⟨[], rfl, by simp⟩
  | a :: b :: ts, h => by
    rw [List.pairwise_cons] at h
    obtain ⟨us, e1, e2⟩ := pairs_asc h.2
    refine ⟨(a, b) :: us, ?_, fun u m => ?_⟩
    · simp only [List.map_cons, List.tail_cons, pairsD, List.cons.injEq, true_and] at e1 ⊢
      exact e1
    · rcases List.mem_cons.mp m with rfl | m
      · exact h.1 b (by simp)
      · exact e2 u m
theorem all_true {α : Type} (xs : List α) : bools (xs.map fun _ => D.bl true) = some (xs.map fun _ => true) := bools_map (fun _ => true) xs
theorem are (T : Ties n ts) (hl : ts.length < 100000) : d_are_ties [nD n, .tup (ts.map tD)] h = .ok (.bl true) h := by
  obtain ⟨us, e1, e2⟩ := pairs_asc T.asc
  have lu : us.length ≤ ts.length := by
    have a : ∀ xs ys : List D, (pairsD xs ys).length ≤ xs.length := fun xs => by
      induction xs with
      | nil => intro ys; cases ys <;> simp [pairsD]
      | cons x xs ih => intro ys; cases ys with
        | nil => simp [pairsD]
        | cons y ys => simp [pairsD]; exact ih ys
    have := a (ts.map tD) (ts.map tD).tail
    rw [e1] at this
    simpa using this
  have c1 := compL_m (g := gN 4) (e := eCall d_is_tie (aC (eV 0) (aC (eV 4) (aN)))) (σ := [some (nD n), some (.tup (ts.map tD)), none, none, none]) (h := h) tD (fun _ => D.bl true) ts fun t m => ⟨_, rfl, by
    simp [eCall, aC, aN, eV, Rs.bind, tie_ok (T.ok t m).1 (T.ok t m).2]⟩
  have c2 := compL_m (g := gT [gN 2, gN 3]) (e := Y.e2 oLt (eV 2) (eV 3)) (σ := [some (nD n), some (.tup (ts.map tD)), none, none, none]) (h := h) (fun u : (Nat × Nat) × (Nat × Nat) => .tup [tD u.1, tD u.2]) (fun _ => D.bl true) us fun u m => ⟨_, rfl, by
    have := lt2_lex (e2 u m)
    simp [Y.e2, eV, Rs.bind, oLt, tD, nD, intsOf, this, ofO]⟩
  have s1 : (ts.length ≤ line) = True := Y.ll _ (by omega)
  have s2 : (us.length ≤ line) = True := Y.ll _ (by omega)
  have k1 : lComp (iA (eV 1)) (gN 4) Y.tYes (eCall d_is_tie (aC (eV 0) (aC (eV 4) (aN)))) [4] [some (nD n), some (.tup (ts.map tD)), none, none, none] h = .ok (ts.map fun _ => D.bl true) h := by
    simp [lComp, iA, eV, Rs.bind, unset, c1, s1]
  have k2 : lComp (iZipD (aC (eV 1) (aC (eSl (eV 1) (oS (eC (.int 1))) (oN)) (aN)))) (gT [gN 2, gN 3]) Y.tYes (Y.e2 oLt (eV 2) (eV 3)) [2, 3] [some (nD n), some (.tup (ts.map tD)), none, none, none] h = .ok (us.map fun _ => D.bl true) h := by
    simp [lComp, iZipD, aC, aN, eSl, oS, oN, eC, eV, Rs.bind, unset, cut1, zipD, e1, ofO, c2, s2]
  have b1 : ∀ m, (List.replicate m (D.bl true)) = (List.replicate m ()).map fun _ => D.bl true := fun m => by simp
  simp [d_are_ties, b_are_ties, b_are_ties_1, count_n, sSeq, sIf, sRet, Y.tOr, Y.tNot, Y.tT, eB, aC, aN, eFrz, eV, eC, eCall, eIs, Y.e1, instD, truth, ofO, Rs.bind, Rs.out, fnP, startD, k1, k2, bAll, lstOf, all_true, finP, sPass]
def webD (n : Nat) (ts : List (Nat × Nat)) : D := .obj "Web" ["places", "ties", "near"] [nD n, .tup (ts.map tD), .tup ((nearOf n ts).map rowN)]
theorem web (T : Ties n ts) (hn : n < 1000) (hl : ts.length < 100000) : d_Web [nD n, .tup (ts.map tD)] h = .ok (webD n ts) h := by
  have e1 := are (h := h) T hl
  have e2 := near h T.nd T.ok hn hl
  simp [d_Web, b_Web, mkO, startD, bIf, Y.tNot, Y.tT, eCall, aC, aN, eV, Rs.bind, e1, e2, truth, ofO, finP, webD]
theorem fld_p : oFld "Web" "places" h (webD n ts) = some (nD n) := by simp [oFld, webD, List.lookup]
theorem fld_t : oFld "Web" "ties" h (webD n ts) = some (.tup (ts.map tD)) := by simp [oFld, webD, List.lookup]; rfl
theorem fld_n : oFld "Web" "near" h (webD n ts) = some (.tup ((nearOf n ts).map rowN)) := by simp [oFld, webD, List.lookup]; rfl
theorem is_web : d_is_web [webD n ts] h = .ok (.bl true) h := by simp [d_is_web, b_is_web, fnP, fnK, startD, sSeq, sAsg, sPar, sRet, sRetN, sIf, sExpr, sPass, eV, Rs.out, Rs.bind, Rs.bindN, outO, gT, gTs, gN, Y.e1, Y.e2, eC, aN, aC, eTup, lLst, eFrz, eMut, oMul, oSub, oAdd, oEq, oNe, oLt, oLe, oGt, oGe, oIs, oIsNot, isN, oDiv, oMod, uNeg, uNot, uRev, eqD, ofO, finP, Y.tB, Y.tT, Y.tAnd, Y.tOr, Y.tNot, Y.tYes, eAnd, eOr, eIf, eCh, truth, eB, lB, eIs, eCall, lCall, instD, bLen, bInt, seqOf, lstOf, ownL, oIx, ixD, dctOf, atI, ixN, bMin, bMax, intsOf, minI, maxI, bAll, bAny, bools, lComp, compL, iA, unset, ll, Y.oFld, Y.oIn, Y.oNotIn, Y.sRaise, List.lookup, List.zip, List.zipWith, isO, webD]
theorem need_web : d_need_web [webD n ts] h = .ok .non h := by simp [d_need_web, b_need_web, is_web, fnP, fnK, startD, sSeq, sAsg, sPar, sRet, sRetN, sIf, sExpr, sPass, eV, Rs.out, Rs.bind, Rs.bindN, outO, gT, gTs, gN, Y.e1, Y.e2, eC, aN, aC, eTup, lLst, eFrz, eMut, oMul, oSub, oAdd, oEq, oNe, oLt, oLe, oGt, oGe, oIs, oIsNot, isN, oDiv, oMod, uNeg, uNot, uRev, eqD, ofO, finP, Y.tB, Y.tT, Y.tAnd, Y.tOr, Y.tNot, Y.tYes, eAnd, eOr, eIf, eCh, truth, eB, lB, eIs, eCall, lCall, instD, bLen, bInt, seqOf, lstOf, ownL, oIx, ixD, dctOf, atI, ixN, bMin, bMax, intsOf, minI, maxI, bAll, bAny, bools, lComp, compL, iA, unset, ll, Y.oFld, Y.isO, Y.oIn, Y.oNotIn, Y.sRaise, List.lookup, List.zip, List.zipWith]
/-- no Web -/
theorem no_web {x : D} (hx : isO "Web" h x = some (.bl false)) : d_need_web [x] h = .ex ⟨"BadWeb", [("web", x)]⟩ h := by
  have e : d_is_web [x] h = .ok (.bl false) h := by simp [d_is_web, b_is_web, fnP, fnK, startD, sSeq, sAsg, sPar, sRet, sRetN, sIf, sExpr, sPass, eV, Rs.out, Rs.bind, Rs.bindN, outO, gT, gTs, gN, Y.e1, Y.e2, eC, aN, aC, eTup, lLst, eFrz, eMut, oMul, oSub, oAdd, oEq, oNe, oLt, oLe, oGt, oGe, oIs, oIsNot, isN, oDiv, oMod, uNeg, uNot, uRev, eqD, ofO, finP, Y.tB, Y.tT, Y.tAnd, Y.tOr, Y.tNot, Y.tYes, eAnd, eOr, eIf, eCh, truth, eB, lB, eIs, eCall, lCall, instD, bLen, bInt, seqOf, lstOf, ownL, oIx, ixD, dctOf, atI, ixN, bMin, bMax, intsOf, minI, maxI, bAll, bAny, bools, lComp, compL, iA, unset, ll, Y.oFld, Y.oIn, Y.oNotIn, Y.sRaise, List.lookup, List.zip, List.zipWith, hx]
  simp [d_need_web, b_need_web, e, fnP, fnK, startD, sSeq, sAsg, sPar, sRet, sRetN, sIf, sExpr, sPass, eV, Rs.out, Rs.bind, Rs.bindN, outO, gT, gTs, gN, Y.e1, Y.e2, eC, aN, aC, eTup, lLst, eFrz, eMut, oMul, oSub, oAdd, oEq, oNe, oLt, oLe, oGt, oGe, oIs, oIsNot, isN, oDiv, oMod, uNeg, uNot, uRev, eqD, ofO, finP, Y.tB, Y.tT, Y.tAnd, Y.tOr, Y.tNot, Y.tYes, eAnd, eOr, eIf, eCh, truth, eB, lB, eIs, eCall, lCall, instD, bLen, bInt, seqOf, lstOf, ownL, oIx, ixD, dctOf, atI, ixN, bMin, bMax, intsOf, minI, maxI, bAll, bAny, bools, lComp, compL, iA, unset, ll, Y.oFld, Y.isO, Y.oIn, Y.oNotIn, Y.sRaise, List.lookup, List.zip, List.zipWith]
theorem need_place (i : Int) (h0 : 0 ≤ i) (h1 : i < n) : d_need_place [webD n ts, .int i] h = .ok .non h := by
  simp [d_need_place, b_need_place, fnP, fnK, startD, sSeq, sAsg, sPar, sRet, sRetN, sIf, sExpr, sPass, eV, Rs.out, Rs.bind, Rs.bindN, outO, gT, gTs, gN, Y.e1, Y.e2, eC, aN, aC, eTup, lLst, eFrz, eMut, oMul, oSub, oAdd, oEq, oNe, oLt, oLe, oGt, oGe, oIs, oIsNot, isN, oDiv, oMod, uNeg, uNot, uRev, eqD, ofO, finP, Y.tB, Y.tT, Y.tAnd, Y.tOr, Y.tNot, Y.tYes, eAnd, eOr, eIf, eCh, truth, eB, lB, eIs, eCall, lCall, instD, bLen, bInt, seqOf, lstOf, ownL, oIx, ixD, dctOf, atI, ixN, bMin, bMax, intsOf, minI, maxI, bAll, bAny, bools, lComp, compL, iA, unset, ll, Y.isO, Y.oIn, Y.oNotIn, Y.sRaise, List.lookup, List.zip, List.zipWith, fld_p, place, h0, h1]
theorem no_place {x : D} (hx : d_is_place_of [nD n, x] h = .ok (.bl false) h) : d_need_place [webD n ts, x] h = .ex ⟨"BadNumber", [("number", x), ("what", .str "place")]⟩ h := by
  simp [d_need_place, b_need_place, fnP, fnK, startD, sSeq, sAsg, sPar, sRet, sRetN, sIf, sExpr, sPass, eV, Rs.out, Rs.bind, Rs.bindN, outO, gT, gTs, gN, Y.e1, Y.e2, eC, aN, aC, eTup, lLst, eFrz, eMut, oMul, oSub, oAdd, oEq, oNe, oLt, oLe, oGt, oGe, oIs, oIsNot, isN, oDiv, oMod, uNeg, uNot, uRev, eqD, ofO, finP, Y.tB, Y.tT, Y.tAnd, Y.tOr, Y.tNot, Y.tYes, eAnd, eOr, eIf, eCh, truth, eB, lB, eIs, eCall, lCall, instD, bLen, bInt, seqOf, lstOf, ownL, oIx, ixD, dctOf, atI, ixN, bMin, bMax, intsOf, minI, maxI, bAll, bAny, bools, lComp, compL, iA, unset, ll, Y.isO, Y.oIn, Y.oNotIn, Y.sRaise, List.lookup, List.zip, List.zipWith, fld_p, hx]
end
end Pg
end

section
set_option Elab.async false
set_option linter.all false
set_option maxRecDepth 100000
set_option maxHeartbeats 1000000
/-! WE: degrees, pairs, common places. -/
namespace Pg
open PySem Y L2
def row (n : Nat) (ts : List (Nat × Nat)) (p : Nat) : List Nat := (List.range n).filter (adj ts p)
theorem near_row {n : Nat} {ts : List (Nat × Nat)} : nearOf n ts = (List.range n).map (row n ts) := rfl
theorem row_len {n p : Nat} {ts : List (Nat × Nat)} : (row n ts p).length ≤ n := by
  have := List.length_filter_le (adj ts p) (List.range n)
  simpa [row] using this
def degD (n : Nat) (ts : List (Nat × Nat)) : D := .tup ((List.range n).map fun p => nD (row n ts p).length)
def comm (n : Nat) (ts : List (Nat × Nat)) (p q : Nat) : List Nat := (row n ts p).filter fun r => decide (r ∈ row n ts q)
def pairsOf (n : Nat) (ts : List (Nat × Nat)) (b : Bool) : List (Nat × Nat) := (List.range n).flatMap fun p => ((List.range' (p + 1) (n - (p + 1))).filter fun q => decide (q ∈ row n ts p) == b).map fun q => (p, q)
section
variable {h : Hm} {n p q : Nat} {ts : List (Nat × Nat)}
theorem near_at (hp : p < n) : ((nearOf n ts).map rowN)[p]? = some (rowN (row n ts p)) := by simp [near_row, hp]
theorem degrees (hn : n < 1000) : d_degrees_in [webD n ts] h = .ok (degD n ts) h := by
  have c1 := compL_m (g := gN 1) (e := eB bLen (aC (eV 1) (aN))) (σ := [some (webD n ts), none]) (h := h) (fun p => rowN (row n ts p)) (fun p => nD (row n ts p).length) (List.range n) fun p m => ⟨_, rfl, by
    simp [eB, aC, aN, eV, Rs.bind, bLen, rowN, seqOf, ofO, nD]⟩
  have s1 : (n ≤ line) = True := Y.ll _ (by omega)
  have k1 : lComp (iA (Y.e1 (oFld "Web" "near") (eV 0))) (gN 1) Y.tYes (eB bLen (aC (eV 1) (aN))) [1] [some (webD n ts), none] h = .ok ((List.range n).map fun p => nD (row n ts p).length) h := by
    have e0 : (nearOf n ts).map rowN = (List.range n).map fun p => rowN (row n ts p) := by rw [near_row, List.map_map]; rfl
    simp only [lComp, iA, Y.e1, eV, Rs.bind, fld_n, ofO, List.getElem?_cons_zero, unset, List.set_cons_succ, List.set_cons_zero, e0, c1, List.length_map, List.length_range, s1, if_true]
  simp [d_degrees_in, b_degrees_in, fnP, startD, sRet, eB, aC, aN, eFrz, k1, Rs.bind, Rs.out, bTuple, lstOf, ofO, finP, degD]
theorem tied (hp : p < n) : d_tied_in [webD n ts, nD p, nD q] h = .ok (.bl (decide (q ∈ row n ts p))) h := by
  have e1 : oIx h (.tup ((nearOf n ts).map rowN)) (nD p) = some (rowN (row n ts p)) := by rw [nD, Y.ix_tup, near_at hp]
  have e2 : oIn h (nD q) (rowN (row n ts p)) = some (.bl (decide (q ∈ row n ts p))) := by rw [oIn, inD_nD]; rfl
  simp [d_tied_in, b_tied_in, fnP, startD, sRet, Y.e2, Y.e1, eV, Rs.bind, Rs.out, fld_n, ofO, e1, e2, finP]
theorem pairs (b : Bool) (hn : n < 1000) : d_pairs_in [webD n ts, .bl b] h = .ok (.fl ((pairsOf n ts b).map tD)) h := by
  have s0 : small (n : Int) = true := small_nat (by omega)
  have c1 := comp2L_m (g := gN 2) (m := inn Y.tYes (iR2 (aC (Y.e2 oAdd (eV 2) (eC (.int 1))) (aC (Y.e1 (oFld "Web" "places") (eV 0)) (aN)))) (gN 3) (Y.tB (Y.e2 oEq (eCall d_tied_in (aC (eV 0) (aC (eV 2) (aC (eV 3) (aN))))) (eV 1))) (eTup (aC (eV 2) (aC (eV 3) (aN)))) [3])
    (σ := [some (webD n ts), some (.bl b), none, none]) (h := h) nD (fun p => (((List.range' (p + 1) (n - (p + 1))).filter fun q => decide (q ∈ row n ts p) == b).map fun q => (p, q)).map tD) (List.range n) fun p m => ⟨_, rfl, by
      have lp := List.mem_range.mp m
      have s1 : small ((p + 1 : Nat) : Int) = true := small_nat (by omega)
      have e0 : ((n : Int) - ((p + 1 : Nat) : Int)).toNat = n - (p + 1) := by omega
      have c0 := compL_fm (g := gN 3) (c := Y.tB (Y.e2 oEq (eCall d_tied_in (aC (eV 0) (aC (eV 2) (aC (eV 3) (aN))))) (eV 1))) (e := eTup (aC (eV 2) (aC (eV 3) (aN)))) (σ := [some (webD n ts), some (.bl b), some (nD p), none]) (h := h)
        nD (fun q => decide (q ∈ row n ts p) == b) (fun q => tD (p, q)) (List.range' (p + 1) (n - (p + 1))) fun q _ => ⟨_, rfl, by
          simp [Y.tB, Y.e2, eCall, aC, aN, eV, Rs.bind, tied lp, oEq, eqD, ofO], fun _ => by simp [eTup, aC, aN, eV, Rs.bind, tD, Y.ll]⟩
      have i1 : iR2 (aC (Y.e2 oAdd (eV 2) (eC (.int 1))) (aC (Y.e1 (oFld "Web" "places") (eV 0)) (aN))) [some (webD n ts), some (.bl b), some (nD p), none] h = .ok ((List.range' (p + 1) (n - (p + 1))).map nD) h := by
        have a1 : oAdd h (nD p) (.int 1) = some (.int ((p + 1 : Nat) : Int)) := by simp [oAdd, nD]
        have a2 : aC (Y.e2 oAdd (eV 2) (eC (.int 1))) (aC (Y.e1 (oFld "Web" "places") (eV 0)) (aN)) [some (webD n ts), some (.bl b), some (nD p), none] h = .ok [.int ((p + 1 : Nat) : Int), .int (n : Int)] h := by
          simp [aC, aN, Y.e2, Y.e1, eV, eC, Rs.bind, a1, fld_p, ofO]; rfl
        unfold iR2
        rw [a2]
        simp only [Rs.bind]
        rw [if_pos (by rw [s1, s0]; rfl), e0, rangeD_at]
        rfl
      have u1 : unset [some (webD n ts), some (.bl b), some (nD p), none] [3] = [some (webD n ts), some (.bl b), some (nD p), none] := rfl
      simp only [inn, Y.tYes, Rs.bindN, if_true, List.set_cons_succ, List.set_cons_zero, i1, u1, c0, List.map_map]
      rfl⟩
  have l1 : (((List.range n).flatMap fun p => (((List.range' (p + 1) (n - (p + 1))).filter fun q => decide (q ∈ row n ts p) == b).map fun q => (p, q)).map tD).length ≤ line) = True := by
    have : ∀ xs : List Nat, (xs.flatMap fun p => (((List.range' (p + 1) (n - (p + 1))).filter fun q => decide (q ∈ row n ts p) == b).map fun q => (p, q)).map tD).length ≤ xs.length * n := fun xs => by
      induction xs with
      | nil => simp
      | cons x xs ih =>
        rw [List.flatMap_cons, List.length_append, List.length_cons, Nat.succ_mul]
        have := List.length_filter_le (fun q => decide (q ∈ row n ts x) == b) (List.range' (x + 1) (n - (x + 1)))
        simp only [List.length_map, List.length_range'] at this ⊢
        omega
    have z := this (List.range n)
    rw [List.length_range] at z
    have : n * n ≤ 1000 * 1000 := Nat.mul_le_mul (by omega) (by omega)
    have : 1000 * 1000 ≤ line := by decide
    exact eq_true (by omega)
  have i0 : iR1 (aC (Y.e1 (oFld "Web" "places") (eV 0)) (aN)) [some (webD n ts), some (.bl b), none, none] h = .ok ((List.range n).map nD) h := by
    have a2 : aC (Y.e1 (oFld "Web" "places") (eV 0)) (aN) [some (webD n ts), some (.bl b), none, none] h = .ok [.int (n : Int)] h := by simp [aC, aN, Y.e1, eV, Rs.bind, fld_p, ofO]; rfl
    unfold iR1
    rw [a2]
    simp only [Rs.bind]
    rw [if_pos s0, Int.toNat_natCast, rangeD_eq]
    rfl
  have k1 : lComp2 (iR1 (aC (Y.e1 (oFld "Web" "places") (eV 0)) (aN))) (gN 2) Y.tYes (iR2 (aC (Y.e2 oAdd (eV 2) (eC (.int 1))) (aC (Y.e1 (oFld "Web" "places") (eV 0)) (aN)))) (gN 3) (Y.tB (Y.e2 oEq (eCall d_tied_in (aC (eV 0) (aC (eV 2) (aC (eV 3) (aN))))) (eV 1))) (eTup (aC (eV 2) (aC (eV 3) (aN)))) [2, 3] [3] [some (webD n ts), some (.bl b), none, none] h =
      .ok ((pairsOf n ts b).map tD) h := by
    have u0 : unset [some (webD n ts), some (.bl b), none, none] [2, 3] = [some (webD n ts), some (.bl b), none, none] := rfl
    simp only [lComp2, i0, Rs.bind, u0, c1, l1, if_true]
    rw [pairsOf, List.map_flatMap]
  have key : ∀ A : Lv, A [some (webD n ts), some (.bl b), none, none] h = .ok ((pairsOf n ts b).map tD) h → fnP 4 (sRet (eFrz A)) [webD n ts, .bl b] h = .ok (.fl ((pairsOf n ts b).map tD)) h := fun A e => by
    simp [fnP, startD, sRet, eFrz, e, Rs.bind, Rs.out, finP]
  exact key _ k1
end
end Pg
end

section
set_option Elab.async false
set_option linter.all false
set_option maxRecDepth 100000
set_option maxHeartbeats 1000000
/-! WF: common places, uneven_in, numbers_of. -/
namespace Pg
open PySem Y L2
section
variable {h : Hm} {n p q : Nat} {ts : List (Nat × Nat)}
theorem find_isSome (a : List (Key × D)) (k : Key) : (getK a k).isSome = a.any fun kv => decide (kv.1 = k) := by
  unfold getK
  induction a with
  | nil => rfl
  | cons x a ih =>
    rw [List.find?_cons, List.any_cons]
    cases e : decide (x.1 = k) with
    | true => simp
    | false => simpa using ih
theorem setK_isSome (a : List (Key × D)) (k k2 : Key) (v : D) : (getK (setK a k v) k2).isSome = ((getK a k2).isSome || decide (k = k2)) := by
  rw [find_isSome, find_isSome]
  unfold setK
  split
  · rename_i e
    have e1 : (a.map fun kv => if kv.1 = k then (kv.1, v) else kv).any (fun kv => decide (kv.1 = k2)) = a.any fun kv => decide (kv.1 = k2) := by
      rw [List.any_map]
      congr 1
      funext kv
      simp only [Function.comp]
      split <;> rfl
    rw [e1]
    by_cases c : k = k2
    · subst c; simp [e]
    · simp [c]
  · rw [List.any_append]; simp
theorem setK_len (a : List (Key × D)) (k : Key) (v : D) : (setK a k v).length ≤ a.length + 1 := by
  unfold setK; split <;> simp
/-- {r: True for r in row} -/
theorem dct_row (σ : Sl) (i : Nat) (hi : ∀ d, (σ.set i (some d))[i]? = some (some d)) : ∀ (r : List Nat) (a : List (Key × D)), a.length + r.length < 100000 → ∃ a', dcL (gN i) Y.tYes (eV i) (eC (.bl true)) σ (r.map nD) a h = .ok a' h ∧ ∀ x : Nat, (getK a' (.inl x)).isSome = ((getK a (.inl x)).isSome || decide (x ∈ r))
  | [], a, _ => ⟨a, rfl, by simp⟩
  | x :: r, a, hl => by
    simp only [List.length_cons] at hl
    have l1 : a.length < line := Nat.lt_of_lt_of_le (show a.length < 100000 by omega) (by decide)
    have l2 := setK_len a (.inl (x : Int)) (.bl true)
    obtain ⟨a', e, k⟩ := dct_row σ i hi r (setK a (.inl (x : Int)) (.bl true)) (by omega)
    refine ⟨a', ?_, fun y => ?_⟩
    · rw [← e]
      simp [dcL, gN, Y.tYes, Rs.bindN, eV, hi, eC, nD, keyOf, l1]
    · rw [k y, setK_isSome, Bool.or_assoc]
      congr 1
      by_cases c : x = y
      · subst c; simp
      · have : ¬ ((Sum.inl (x : Int) : Key) = Sum.inl (y : Int)) := fun z => c (by injection z with z; omega)
        simp [this, Ne.symm c]
theorem ix_near (hp : p < n) : oIx h (.tup ((nearOf n ts).map rowN)) (nD p) = some (rowN (row n ts p)) := by rw [nD, Y.ix_tup, near_at hp]
theorem common (hp : p < n) (hq : q < n) (hn : n < 1000) : d_common_in [webD n ts, nD p, nD q] h = .ok (rowN (comm n ts p q)) h := by
  have rq := row_len (n := n) (p := q) (ts := ts)
  have rp := row_len (n := n) (p := p) (ts := ts)
  obtain ⟨a, e1, k⟩ := dct_row (h := h) [some (webD n ts), some (nD p), some (nD q), none, none] 4 (fun d => rfl) (row n ts q) [] (by simp; omega)
  have k0 : eDc (iA (Y.e2 oIx (Y.e1 (oFld "Web" "near") (eV 0)) (eV 2))) (gN 4) Y.tYes (eV 4) (eC (.bl true)) [4] [some (webD n ts), some (nD p), some (nD q), none, none] h = .ok (.loc h.length) (h ++ [.dct a]) := by
    have i1 : iA (Y.e2 oIx (Y.e1 (oFld "Web" "near") (eV 0)) (eV 2)) [some (webD n ts), some (nD p), some (nD q), none, none] h = .ok ((row n ts q).map nD) h := by
      simp [iA, Y.e2, Y.e1, eV, Rs.bind, fld_n, ofO, ix_near hq, rowN]
    have u1 : unset [some (webD n ts), some (nD p), some (nD q), none, none] [4] = [some (webD n ts), some (nD p), some (nD q), none, none] := rfl
    simp only [eDc, i1, Rs.bind, u1, e1]
  have c1 := compL_fm (g := gN 4) (c := Y.tB (Y.e2 oIn (eV 4) (eV 3))) (e := eV 4) (σ := [some (webD n ts), some (nD p), some (nD q), some (.loc h.length), none]) (h := h ++ [.dct a]) nD (fun r => decide (r ∈ row n ts q)) nD (row n ts p) fun r _ => ⟨_, rfl, by
    have g1 : (h ++ [Ob.dct a])[h.length]? = some (.dct a) := by simp
    have g2 : oIn (h ++ [Ob.dct a]) (nD r) (.loc h.length) = some (.bl (decide (r ∈ row n ts q))) := by
      have := k r
      rw [oIn, inD]
      simp only [dctOf, g1, nD, keyOf, this]
      simp [getK]
    simp [Y.tB, Y.e2, eV, Rs.bind, g2, ofO], fun _ => rfl⟩
  have s1 : ((((row n ts p).filter fun r => decide (r ∈ row n ts q)).map nD).length ≤ line) = True := by
    have := List.length_filter_le (fun r => decide (r ∈ row n ts q)) (row n ts p)
    rw [List.length_map]
    exact Y.ll _ (by omega)
  have k1 : lComp (iA (Y.e2 oIx (Y.e1 (oFld "Web" "near") (eV 0)) (eV 1))) (gN 4) (Y.tB (Y.e2 oIn (eV 4) (eV 3))) (eV 4) [4] [some (webD n ts), some (nD p), some (nD q), some (.loc h.length), none] (h ++ [.dct a]) = .ok ((comm n ts p q).map nD) (h ++ [.dct a]) := by
    have i1 : iA (Y.e2 oIx (Y.e1 (oFld "Web" "near") (eV 0)) (eV 1)) [some (webD n ts), some (nD p), some (nD q), some (.loc h.length), none] (h ++ [.dct a]) = .ok ((row n ts p).map nD) (h ++ [.dct a]) := by
      simp [iA, Y.e2, Y.e1, eV, Rs.bind, fld_n, ofO, ix_near hp, rowN]
    have u1 : unset [some (webD n ts), some (nD p), some (nD q), some (.loc h.length), none] [4] = [some (webD n ts), some (nD p), some (nD q), some (.loc h.length), none] := rfl
    simp only [lComp, i1, Rs.bind, u1, c1, s1, if_true]
    rfl
  have key : ∀ (A : Ev) (B : Lv), A [some (webD n ts), some (nD p), some (nD q), none, none] h = .ok (.loc h.length) (h ++ [.dct a]) → B [some (webD n ts), some (nD p), some (nD q), some (.loc h.length), none] (h ++ [.dct a]) = .ok ((comm n ts p q).map nD) (h ++ [.dct a]) →
      fnP 5 (sSeq (sAsg (gN 3) A) (sRet (eB bTuple (aC (eFrz B) (aN))))) [webD n ts, nD p, nD q] h = .ok (rowN (comm n ts p q)) h := fun A B e1 e2 => by
    have low : D.low h.length (rowN (comm n ts p q)) = true := by simp [rowN, D.low, low_ints]
    have := fin_app (l := [.dct a]) low
    simp [fnP, startD, sSeq, sAsg, e1, Rs.out, gN, outO, sRet, eB, aC, aN, eFrz, e2, Rs.bind, bTuple, lstOf, ofO]
    exact this
  exact key _ _ k0 k1
theorem mem_row {x : Nat} : x ∈ row n ts p ↔ x < n ∧ adj ts p x = true := by simp [row]
theorem mem_pairs {b : Bool} {t : Nat × Nat} : t ∈ pairsOf n ts b ↔ t.1 < t.2 ∧ t.2 < n ∧ decide (t.2 ∈ row n ts t.1) = b := by
  simp only [pairsOf, List.mem_flatMap, List.mem_range, List.mem_map, List.mem_filter, List.mem_range'_1, beq_iff_eq]
  constructor
  · rintro ⟨p, hp, q, ⟨hq, e⟩, rfl⟩
    exact ⟨by simp; omega, by simp; omega, e⟩
  · rintro ⟨h1, h2, e⟩
    exact ⟨t.1, by omega, t.2, ⟨by omega, e⟩, rfl⟩
/-! ### the first reason -/
def deg (n : Nat) (ts : List (Nat × Nat)) (p : Nat) : Nat := (row n ts p).length
def cmn (n : Nat) (ts : List (Nat × Nat)) (t : Nat × Nat) : Nat := (comm n ts t.1 t.2).length
def wrongOf (n : Nat) (ts : List (Nat × Nat)) (b : Bool) : Option (Nat × Nat) := match pairsOf n ts b with
  | [] => none
  | t :: _ => (pairsOf n ts b).find? fun u => decide (cmn n ts u ≠ cmn n ts t)
def unevenD (n : Nat) (ts : List (Nat × Nat)) : D :=
  if n = 0 ∨ deg n ts 0 = 0 ∨ deg n ts 0 + 1 = n then .tup [.str "degree", nD 0]
  else match (List.range n).find? fun p => decide (deg n ts p ≠ deg n ts 0) with
  | some p => .tup [.str "degree", nD p]
  | none => match wrongOf n ts true with
    | some t => .tup [.str "tied", tD t]
    | none => match wrongOf n ts false with
      | some t => .tup [.str "untied", tD t]
      | none => .non
abbrev uS (n : Nat) (ts : List (Nat × Nat)) (a b c d e f g i j k : Option D) : Sl := [some (webD n ts), some (degD n ts), a, b, c, d, e, f, g, i, j, k]
theorem zip_self2 (F G : Nat × Nat → D) : ∀ ps : List (Nat × Nat), pairsD (ps.map F) (ps.map G) = ps.map fun t => .tup [F t, G t]
  | [] => rfl
  | t :: ps => by simp [pairsD, zip_self2 F G ps]
theorem pairs_len (b : Bool) (hn : n < 1000) : (pairsOf n ts b).length ≤ 1000000 := by
  have : ∀ xs : List Nat, (xs.flatMap fun p => ((List.range' (p + 1) (n - (p + 1))).filter fun q => decide (q ∈ row n ts p) == b).map fun q => (p, q)).length ≤ xs.length * n := fun xs => by
    induction xs with
    | nil => simp
    | cons x xs ih =>
      rw [List.flatMap_cons, List.length_append, List.length_cons, Nat.succ_mul]
      have := List.length_filter_le (fun q => decide (q ∈ row n ts x) == b) (List.range' (x + 1) (n - (x + 1)))
      simp only [List.length_map, List.length_range'] at this ⊢
      omega
  have z := this (List.range n)
  rw [List.length_range] at z
  have : n * n ≤ 1000 * 1000 := Nat.mul_le_mul (by omega) (by omega)
  unfold pairsOf
  omega
theorem l2_lap (w : Str) (b : Bool) {a1 a2 c6 c7 c8 c9 c10 c11 : Option D} (hn : n < 1000) : match wrongOf n ts b with
    | some t => b_uneven_in_l2 (uS n ts a1 a2 (some (.str w)) (some (.bl b)) c6 c7 c8 c9 c10 c11) h = .rt (.tup [.str w, tD t]) h
    | none => ∃ d6 d7 d8, b_uneven_in_l2 (uS n ts a1 a2 (some (.str w)) (some (.bl b)) c6 c7 c8 c9 c10 c11) h = .nx (uS n ts a1 a2 (some (.str w)) (some (.bl b)) d6 d7 d8 c9 c10 c11) h := by
  have hps := pairs_len (n := n) (ts := ts) b hn
  have s1 : ((pairsOf n ts b).length ≤ line) = True := eq_true (Nat.le_trans hps (by decide))
  have k6 : eCall d_pairs_in (aC (eV 0) (aC (eV 5) (aN))) (uS n ts a1 a2 (some (.str w)) (some (.bl b)) c6 c7 c8 c9 c10 c11) h = .ok (.fl ((pairsOf n ts b).map tD)) h := by
    simp [eCall, aC, aN, eV, Rs.bind, pairs b hn]
  have k7 : lComp (iA (eV 6)) (gT [gN 2, gN 9]) Y.tYes (eB bLen (aC (eCall d_common_in (aC (eV 0) (aC (eV 2) (aC (eV 9) (aN))))) (aN))) [2, 9] (uS n ts a1 a2 (some (.str w)) (some (.bl b)) (some (.fl ((pairsOf n ts b).map tD))) c7 c8 c9 c10 c11) h =
      .ok ((pairsOf n ts b).map fun t => nD (cmn n ts t)) h := by
    have c1 := compL_m (g := gT [gN 2, gN 9]) (e := eB bLen (aC (eCall d_common_in (aC (eV 0) (aC (eV 2) (aC (eV 9) (aN))))) (aN))) (σ := unset (uS n ts a1 a2 (some (.str w)) (some (.bl b)) (some (.fl ((pairsOf n ts b).map tD))) c7 c8 c9 c10 c11) [2, 9]) (h := h) tD (fun t => nD (cmn n ts t)) (pairsOf n ts b) fun t m => ⟨_, rfl, by
      obtain ⟨h1, h2, _⟩ := mem_pairs.mp m
      simp [unset, eB, aC, aN, eCall, eV, Rs.bind, common (h := h) (ts := ts) (show t.1 < n by omega) h2 hn, bLen, rowN, seqOf, ofO, cmn]
      rfl⟩
    have i1 : iA (eV 6) (uS n ts a1 a2 (some (.str w)) (some (.bl b)) (some (.fl ((pairsOf n ts b).map tD))) c7 c8 c9 c10 c11) h = .ok ((pairsOf n ts b).map tD) h := by simp [iA, eV, Rs.bind]
    have l1 : ((pairsOf n ts b).map fun t => nD (cmn n ts t)).length = (pairsOf n ts b).length := by simp
    simp only [lComp, i1, Rs.bind, c1, l1, s1, if_true]
  have k8 : ∃ xs : List (Nat × Nat), xs.head? = wrongOf n ts b ∧ lComp (iZipD (aC (eV 6) (aC (eV 7) (aN)))) (gT [gN 10, gN 11]) (Y.tB (Y.e2 oNe (eV 11) (Y.e2 oIx (eV 7) (eC (.int 0))))) (eV 10) [10, 11]
      (uS n ts a1 a2 (some (.str w)) (some (.bl b)) (some (.fl ((pairsOf n ts b).map tD))) (some (.fl ((pairsOf n ts b).map fun t => nD (cmn n ts t)))) c8 c9 c10 c11) h = .ok (xs.map tD) h := by
    have i1 : iZipD (aC (eV 6) (aC (eV 7) (aN))) (uS n ts a1 a2 (some (.str w)) (some (.bl b)) (some (.fl ((pairsOf n ts b).map tD))) (some (.fl ((pairsOf n ts b).map fun t => nD (cmn n ts t)))) c8 c9 c10 c11) h =
        .ok ((pairsOf n ts b).map fun t => .tup [tD t, nD (cmn n ts t)]) h := by
      simp [iZipD, aC, aN, eV, Rs.bind, zipD, frzOf, ofO, zip_self2]
    unfold wrongOf
    cases e : pairsOf n ts b with
    | nil =>
      rw [e] at i1
      refine ⟨[], rfl, ?_⟩
      simp only [lComp, i1, Rs.bind]
      simp [compL, Y.ll]
    | cons t0 ps =>
      rw [e] at i1
      refine ⟨(t0 :: ps).filter fun u => decide (cmn n ts u ≠ cmn n ts t0), by rw [List.head?_filter], ?_⟩
      have c1 := compL_fm (g := gT [gN 10, gN 11]) (c := Y.tB (Y.e2 oNe (eV 11) (Y.e2 oIx (eV 7) (eC (.int 0))))) (e := eV 10)
        (σ := unset (uS n ts a1 a2 (some (.str w)) (some (.bl b)) (some (.fl ((t0 :: ps).map tD))) (some (.fl ((t0 :: ps).map fun t => nD (cmn n ts t)))) c8 c9 c10 c11) [10, 11]) (h := h) (fun t => .tup [tD t, nD (cmn n ts t)]) (fun u => decide (cmn n ts u ≠ cmn n ts t0)) tD (t0 :: ps) fun t _ => ⟨_, rfl, by
          have o1 : oIx h (.fl ((t0 :: ps).map fun t => nD (cmn n ts t))) (.int 0) = some (nD (cmn n ts t0)) := by
            have := ix_fl (h := h) (xs := (t0 :: ps).map fun t => nD (cmn n ts t)) (i := 0)
            simpa using this
          have o2 : oNe h (nD (cmn n ts t)) (nD (cmn n ts t0)) = some (.bl (decide (cmn n ts t ≠ cmn n ts t0))) := by
            have : ((cmn n ts t : Int) = (cmn n ts t0 : Int)) ↔ cmn n ts t = cmn n ts t0 := by omega
            simp [oNe, eqD, nD]
            exact this
          have q7 : eV 7 [some (webD n ts), some (degD n ts), a1, a2, some (D.str w), some (D.bl b), some (D.fl ((t0 :: ps).map tD)), some (D.fl ((t0 :: ps).map fun t => nD (cmn n ts t))), c8, c9, some (tD t), some (nD (cmn n ts t))] h = .ok (.fl ((t0 :: ps).map fun t => nD (cmn n ts t))) h := rfl
          have q11 : eV 11 [some (webD n ts), some (degD n ts), a1, a2, some (D.str w), some (D.bl b), some (D.fl ((t0 :: ps).map tD)), some (D.fl ((t0 :: ps).map fun t => nD (cmn n ts t))), c8, c9, some (tD t), some (nD (cmn n ts t))] h = .ok (nD (cmn n ts t)) h := rfl
          show Y.tB (Y.e2 oNe (eV 11) (Y.e2 oIx (eV 7) (eC (.int 0)))) [some (webD n ts), some (degD n ts), a1, a2, some (D.str w), some (D.bl b), some (D.fl ((t0 :: ps).map tD)), some (D.fl ((t0 :: ps).map fun t => nD (cmn n ts t))), c8, c9, some (tD t), some (nD (cmn n ts t))] h = _
          simp only [Y.tB, Y.e2, q7, q11, eC, Rs.bind, o1, ofO, o2], fun _ => rfl⟩
      have l1 : ((((t0 :: ps).filter fun u => decide (cmn n ts u ≠ cmn n ts t0)).map tD).length ≤ line) = True := by
        rw [e] at hps
        have := List.length_filter_le (fun u => decide (cmn n ts u ≠ cmn n ts t0)) (t0 :: ps)
        rw [List.length_map]
        exact eq_true (Nat.le_trans (Nat.le_trans this hps) (by decide))
      simp only [lComp, i1, Rs.bind, c1, l1, if_true]
  obtain ⟨xs, hx, k8⟩ := k8
  have key : ∀ (A6 : Ev) (A7 A8 : Lv), A6 (uS n ts a1 a2 (some (.str w)) (some (.bl b)) c6 c7 c8 c9 c10 c11) h = .ok (.fl ((pairsOf n ts b).map tD)) h →
      A7 (uS n ts a1 a2 (some (.str w)) (some (.bl b)) (some (.fl ((pairsOf n ts b).map tD))) c7 c8 c9 c10 c11) h = .ok ((pairsOf n ts b).map fun t => nD (cmn n ts t)) h →
      A8 (uS n ts a1 a2 (some (.str w)) (some (.bl b)) (some (.fl ((pairsOf n ts b).map tD))) (some (.fl ((pairsOf n ts b).map fun t => nD (cmn n ts t)))) c8 c9 c10 c11) h = .ok (xs.map tD) h →
      match xs.head? with
      | some t => sSeq (sAsg (gN 6) A6) (sSeq (sAsg (gN 7) (eFrz A7)) (sSeq (sAsg (gN 8) (eFrz A8)) b_uneven_in_l2_3)) (uS n ts a1 a2 (some (.str w)) (some (.bl b)) c6 c7 c8 c9 c10 c11) h = .rt (.tup [.str w, tD t]) h
      | none => ∃ c6' c7' c8', sSeq (sAsg (gN 6) A6) (sSeq (sAsg (gN 7) (eFrz A7)) (sSeq (sAsg (gN 8) (eFrz A8)) b_uneven_in_l2_3)) (uS n ts a1 a2 (some (.str w)) (some (.bl b)) c6 c7 c8 c9 c10 c11) h = .nx (uS n ts a1 a2 (some (.str w)) (some (.bl b)) c6' c7' c8' c9 c10 c11) h := fun A6 A7 A8 e6 e7 e8 => by
    have run : sSeq (sAsg (gN 6) A6) (sSeq (sAsg (gN 7) (eFrz A7)) (sSeq (sAsg (gN 8) (eFrz A8)) b_uneven_in_l2_3)) (uS n ts a1 a2 (some (.str w)) (some (.bl b)) c6 c7 c8 c9 c10 c11) h =
        b_uneven_in_l2_3 (uS n ts a1 a2 (some (.str w)) (some (.bl b)) (some (.fl ((pairsOf n ts b).map tD))) (some (.fl ((pairsOf n ts b).map fun t => nD (cmn n ts t)))) (some (.fl (xs.map tD))) c9 c10 c11) h := by
      simp only [sSeq, sAsg, e6, Rs.out, gN, outO, List.set_cons_succ, List.set_cons_zero, eFrz, e7, e8, Rs.bind]
    rw [run]
    cases xs with
    | nil => exact ⟨_, _, _, by simp [b_uneven_in_l2_3, sIf, Y.tT, eV, Rs.bind, Rs.out, truth, lstOf, ofO, sPass]; exact ⟨rfl, rfl, rfl⟩⟩
    | cons t xs =>
      have o1 : oIx h (.fl (tD t :: xs.map tD)) (.int 0) = some (tD t) := by
        have := ix_fl (h := h) (xs := tD t :: xs.map tD) (i := 0)
        simpa using this
      simp [b_uneven_in_l2_3, sIf, Y.tT, eV, Rs.bind, Rs.out, truth, lstOf, ofO, sRet, eTup, aC, aN, Y.e2, eC, o1, Y.ll]
  rw [← hx]
  have kk := key _ _ _ k6 k7 k8
  cases hq : xs.head? with
  | some t => rw [hq] at kk; exact kk
  | none => rw [hq] at kk; obtain ⟨x, y, z, kk⟩ := kk; exact ⟨x, y, z, kk⟩
/-- degrees, walked with their places -/
theorem enum_deg : enumD 0 ((List.range n).map fun p => nD (row n ts p).length) = (List.range n).map fun p => .tup [nD p, nD (deg n ts p)] := by
  have aux : ∀ (m i : Nat), enumD i ((List.range' i m).map fun p => nD (row n ts p).length) = (List.range' i m).map fun p => .tup [nD p, nD (deg n ts p)] := fun m => by
    induction m with
    | zero => intro i; rfl
    | succ m ih => intro i; rw [List.range'_succ, List.map_cons, List.map_cons, enumD, ih]; rfl
  rw [List.range_eq_range']
  exact aux n 0
theorem deg_at (hp : p < n) : oIx h (degD n ts) (nD p) = some (nD (deg n ts p)) := by rw [degD, nD, Y.ix_tup]; simp [hp, deg]
theorem deg_0 (hp : 0 < n) : oIx h (degD n ts) (.int 0) = some (nD (deg n ts 0)) := deg_at (p := 0) hp
theorem inD_2 {a b c : Nat} : inD h (nD a) (.tup [nD b, nD c]) = some (decide (a = b ∨ a = c)) := by
  have := inD_nD (h := h) (x := a) (r := [b, c])
  simpa [rowN] using this
theorem findSome_if {α β : Type} (c : α → Bool) (f : α → β) : ∀ xs : List α, xs.findSome? (fun x => if c x = true then some (f x) else none) = (xs.find? c).map f
  | [] => rfl
  | x :: xs => by
    rw [List.findSome?_cons, List.find?_cons]
    cases c x with
    | true => simp
    | false => simpa using findSome_if c f xs
theorem l1_lap (hp : p < n) {c d e f g i j k a b : Option D} : b_uneven_in_l1 (uS n ts (some (nD p)) (some (nD (deg n ts p))) c d e f g i j k) h = (if deg n ts p ≠ deg n ts 0 then .rt (.tup [.str "degree", nD p]) h else .nx (uS n ts (some (nD p)) (some (nD (deg n ts p))) c d e f g i j k) h) := by
  have o1 := deg_0 (h := h) (ts := ts) (n := n) (by omega)
  have o2 : oNe h (nD (deg n ts p)) (nD (deg n ts 0)) = some (.bl (decide (deg n ts p ≠ deg n ts 0))) := by
    have : ((deg n ts p : Int) = (deg n ts 0 : Int)) ↔ deg n ts p = deg n ts 0 := by omega
    simp [oNe, eqD, nD]
    exact this
  by_cases q : deg n ts p = deg n ts 0
  · rw [decide_eq_false (by simpa using q)] at o2
    simp [b_uneven_in_l1, sIf, Y.tB, Y.e2, eV, eC, Rs.bind, Rs.out, o1, o2, ofO, sPass, q]
    rw [q] at o2; simp [o2]
  · rw [decide_eq_true (by simpa using q)] at o2
    simp [b_uneven_in_l1, sIf, Y.tB, Y.e2, eV, eC, Rs.bind, Rs.out, o1, o2, ofO, sRet, eTup, aC, aN, Y.ll, q]
theorem un_3 (hn : n < 1000) {a b : Option D} : b_uneven_in_3 (uS n ts a b none none none none none none none none) h = .rt (match wrongOf n ts true with
    | some t => .tup [.str "tied", tD t]
    | none => match wrongOf n ts false with
      | some t => .tup [.str "untied", tD t]
      | none => .non) h := by
  have i1 : iA (eTup (aC (eTup (aC (eC (.str "tied")) (aC (eC (.bl true)) (aN)))) (aC (eTup (aC (eC (.str "untied")) (aC (eC (.bl false)) (aN)))) (aN)))) (uS n ts a b none none none none none none none none) h = .ok [.tup [.str "tied", .bl true], .tup [.str "untied", .bl false]] h := by
    simp [iA, eTup, aC, aN, eC, Rs.bind, Y.ll]
  have z1 := l2_lap (h := h) (ts := ts) "tied" true (a1 := a) (a2 := b) (c6 := none) (c7 := none) (c8 := none) (c9 := none) (c10 := none) (c11 := none) hn
  cases e1 : wrongOf n ts true with
  | some t =>
    rw [e1] at z1
    simp only [b_uneven_in_3, sSeq, sFor, i1, Rs.out, forL, gT, gTs, gN, Option.bind_some, List.set_cons_succ, List.set_cons_zero, z1]
  | none =>
    rw [e1] at z1
    obtain ⟨c6, c7, c8, z1⟩ := z1
    have z2 := l2_lap (h := h) (ts := ts) "untied" false (a1 := a) (a2 := b) (c6 := c6) (c7 := c7) (c8 := c8) (c9 := none) (c10 := none) (c11 := none) hn
    cases e2 : wrongOf n ts false with
    | some t =>
      rw [e2] at z2
      simp only [b_uneven_in_3, sSeq, sFor, i1, Rs.out, forL, gT, gTs, gN, Option.bind_some, List.set_cons_succ, List.set_cons_zero, z1, z2]
    | none =>
      rw [e2] at z2
      obtain ⟨d6, d7, d8, z2⟩ := z2
      simp only [b_uneven_in_3, sSeq, sFor, i1, Rs.out, forL, gT, gTs, gN, Option.bind_some, List.set_cons_succ, List.set_cons_zero, z1, z2, b_uneven_in_4, sRet, eC]
theorem uneven (hn : n < 1000) : d_uneven_in [webD n ts] h = .ok (unevenD n ts) h := by
  have s0 : d_uneven_in [webD n ts] h = (match b_uneven_in_1 (uS n ts none none none none none none none none none none) h with | .rt d h' => finP h d h' | .nx _ h' => finP h .non h' | .ex e _ h' => .ex e h' | _ => .bad) := by
    simp only [d_uneven_in, fnP, b_uneven_in, startD, sSeq, sAsg, eCall, aC, aN, eV, List.map_cons, List.map_nil, List.length_cons, List.length_nil, List.cons_append, List.nil_append, List.replicate, List.getElem?_cons_zero, Rs.bind, degrees hn, Rs.out, gN, outO, List.set_cons_succ, List.set_cons_zero]
    try rfl
  rw [s0]
  by_cases n0 : n = 0
  · subst n0
    have : b_uneven_in_1 (uS 0 ts none none none none none none none none none none) h = .rt (.tup [.str "degree", .int 0]) h := by
      simp [b_uneven_in_1, sSeq, sIf, Y.tOr, Y.tNot, Y.tT, eV, Rs.bind, Rs.out, truth, degD, ofO, sRet, eTup, aC, aN, eC, Y.ll]
    rw [this]
    simp only [finP, unevenD, true_or, if_true]
    rfl
  · have o1 := deg_0 (h := h) (ts := ts) (n := n) (by omega)
    have o3 : oIn h (nD (deg n ts 0)) (.tup [.int 0, .int ((n : Int) - 1)]) = some (.bl (decide (deg n ts 0 = 0 ∨ deg n ts 0 = n - 1))) := by
      have e : (.tup [.int 0, .int ((n : Int) - 1)] : D) = .tup [nD 0, nD (n - 1)] := by
        have : (n : Int) - 1 = ((n - 1 : Nat) : Int) := by omega
        rw [this]; rfl
      rw [oIn, e, inD_2]; rfl
    have ne : (List.map (fun p => nD (row n ts p).length) (List.range n)).isEmpty = false := by
      rw [List.isEmpty_eq_false_iff]
      intro z
      have := congrArg List.length z
      simp at this
      omega
    have s1 : b_uneven_in_1 (uS n ts none none none none none none none none none none) h = if deg n ts 0 = 0 ∨ deg n ts 0 = n - 1 then .rt (.tup [.str "degree", .int 0]) h else b_uneven_in_2 (uS n ts none none none none none none none none none none) h := by
      have tr : truth h (degD n ts) = some true := by simp only [truth, degD, ne]; rfl
      have su : oSub h (nD n) (.int 1) = some (.int ((n : Int) - 1)) := rfl
      by_cases c : deg n ts 0 = 0 ∨ deg n ts 0 = n - 1
      · rw [decide_eq_true c] at o3
        rw [if_pos c]
        simp [b_uneven_in_1, sSeq, sIf, Y.tOr, Y.tNot, Y.tT, Y.tB, Y.e2, Y.e1, eV, eC, Rs.bind, Rs.out, tr, ofO, o1, fld_p, su, o3, sRet, eTup, aC, aN, Y.ll]
      · rw [decide_eq_false c] at o3
        rw [if_neg c]
        simp [b_uneven_in_1, sSeq, sIf, Y.tOr, Y.tNot, Y.tT, Y.tB, Y.e2, Y.e1, eV, eC, Rs.bind, Rs.out, tr, ofO, o1, fld_p, su, o3, sPass, eTup, aC, aN, Y.ll]
    rw [s1]
    unfold unevenD
    by_cases c : deg n ts 0 = 0 ∨ deg n ts 0 = n - 1
    · rw [if_pos c, if_pos (by rcases c with c | c; exact .inr (.inl c); exact .inr (.inr (by omega)))]
      simp only [finP, if_true]
      rfl
    · rw [if_neg c, if_neg (by rintro (c' | c' | c'); exact n0 c'; exact c (.inl c'); exact c (.inr (by omega)))]
      have z := forL_ret (g := gT [gN 2, gN 3]) (b := b_uneven_in_l1) (h := h) (fun p => .tup [nD p, nD (deg n ts p)]) (fun σ => ∃ a b, σ = uS n ts a b none none none none none none none none)
        (fun p => if decide (deg n ts p ≠ deg n ts 0) = true then some (.tup [.str "degree", nD p]) else none) (List.range n) (uS n ts none none none none none none none none none none) ⟨_, _, rfl⟩ fun p m σ ⟨a, b, es⟩ => by
          subst es
          refine ⟨_, rfl, ?_⟩
          have q := l1_lap (h := h) (ts := ts) (List.mem_range.mp m) (c := none) (d := none) (e := none) (f := none) (g := none) (i := none) (j := none) (k := none) (a := none) (b := none)
          by_cases c2 : deg n ts p = deg n ts 0
          · rw [if_neg (by simpa using c2)] at q ⊢
            exact ⟨_, q, _, _, rfl⟩
          · rw [if_pos (by simpa using c2)] at q ⊢
            exact q
      rw [findSome_if] at z
      have i1 : iEnumV (aC (eV 1) (aN)) (uS n ts none none none none none none none none none none) h = .ok ((List.range n).map fun p => .tup [nD p, nD (deg n ts p)]) h := by
        have : numA [degD n ts] = some ((List.range n).map fun p => .tup [nD p, nD (deg n ts p)]) := by rw [degD, numA, enum_deg]
        simp [iEnumV, aC, aN, eV, Rs.bind, this, ofO]
      cases e : (List.range n).find? fun p => decide (deg n ts p ≠ deg n ts 0) with
      | some p =>
        rw [e] at z
        simp only [Option.map_some] at z
        simp only [b_uneven_in_2, sSeq, sFor, i1, Rs.out, z, finP, if_true]
      | none =>
        rw [e] at z
        simp only [Option.map_none] at z
        obtain ⟨σ', z, a, b, es⟩ := z
        subst es
        simp only [b_uneven_in_2, sSeq, sFor, i1, Rs.out, z, un_3 hn, finP, if_true]
end
end Pg
end

section
set_option Elab.async false
set_option linter.all false
set_option maxRecDepth 100000
set_option maxHeartbeats 1000000
/-! WG: the functions of even webs. -/
namespace Pg
open PySem Y L2
section
variable {h : Hm} {n p q : Nat} {ts : List (Nat × Nat)} {x y z : D}
theorem even_ok (hn : n < 1000) : d_is_even [webD n ts] h = .ok (.bl (isN (unevenD n ts))) h := by
  simp [d_is_even, b_is_even, b_is_even_1, need_web, uneven hn, fnP, fnK, startD, sSeq, sAsg, sPar, sRet, sRetN, sIf, sExpr, sPass, eV, Rs.out, Rs.bind, Rs.bindN, outO, gT, gTs, gN, Y.e1, Y.e2, eC, aN, aC, eTup, lLst, eFrz, eMut, oMul, oSub, oAdd, oEq, oNe, oLt, oLe, oGt, oGe, oIs, oIsNot, isN, oDiv, oMod, uNeg, uNot, uRev, eqD, ofO, finP, Y.tB, Y.tT, Y.tAnd, Y.tOr, Y.tNot, Y.tYes, eAnd, eOr, eIf, eCh, truth, eB, lB, eIs, eCall, lCall, instD, bLen, bInt, seqOf, lstOf, ownL, oIx, ixD, dctOf, atI, ixN, bMin, bMax, intsOf, minI, maxI, bAll, bAny, bools, lComp, compL, iA, unset, ll, Y.oFld, Y.isO, Y.oIn, Y.oNotIn, Y.sRaise, List.lookup, List.zip, List.zipWith]
theorem uneven_ok (hn : n < 1000) : d_uneven [webD n ts] h = .ok (unevenD n ts) h := by
  simp [d_uneven, b_uneven, b_uneven_1, need_web, uneven hn, fnP, fnK, startD, sSeq, sAsg, sPar, sRet, sRetN, sIf, sExpr, sPass, eV, Rs.out, Rs.bind, Rs.bindN, outO, gT, gTs, gN, Y.e1, Y.e2, eC, aN, aC, eTup, lLst, eFrz, eMut, oMul, oSub, oAdd, oEq, oNe, oLt, oLe, oGt, oGe, oIs, oIsNot, isN, oDiv, oMod, uNeg, uNot, uRev, eqD, ofO, finP, Y.tB, Y.tT, Y.tAnd, Y.tOr, Y.tNot, Y.tYes, eAnd, eOr, eIf, eCh, truth, eB, lB, eIs, eCall, lCall, instD, bLen, bInt, seqOf, lstOf, ownL, oIx, ixD, dctOf, atI, ixN, bMin, bMax, intsOf, minI, maxI, bAll, bAny, bools, lComp, compL, iA, unset, ll, Y.oFld, Y.isO, Y.oIn, Y.oNotIn, Y.sRaise, List.lookup, List.zip, List.zipWith]
theorem near_ok {x : D} (hx : d_is_place_of [nD n, x] h = .ok (.bl false) h) : d_common_near [webD n ts, x, y] h = .ex ⟨"BadNumber", [("number", x), ("what", .str "place")]⟩ h := by
  simp [d_common_near, b_common_near, b_common_near_3, b_common_near_2, b_common_near_1, need_web, no_place hx, fnP, fnK, startD, sSeq, sAsg, sPar, sRet, sRetN, sIf, sExpr, sPass, eV, Rs.out, Rs.bind, Rs.bindN, outO, gT, gTs, gN, Y.e1, Y.e2, eC, aN, aC, eTup, lLst, eFrz, eMut, oMul, oSub, oAdd, oEq, oNe, oLt, oLe, oGt, oGe, oIs, oIsNot, isN, oDiv, oMod, uNeg, uNot, uRev, eqD, ofO, finP, Y.tB, Y.tT, Y.tAnd, Y.tOr, Y.tNot, Y.tYes, eAnd, eOr, eIf, eCh, truth, eB, lB, eIs, eCall, lCall, instD, bLen, bInt, seqOf, lstOf, ownL, oIx, ixD, dctOf, atI, ixN, bMin, bMax, intsOf, minI, maxI, bAll, bAny, bools, lComp, compL, iA, unset, ll, Y.oFld, Y.isO, Y.oIn, Y.oNotIn, Y.sRaise, List.lookup, List.zip, List.zipWith]
theorem near_ok2 (hp : p < n) {x : D} (hx : d_is_place_of [nD n, x] h = .ok (.bl false) h) : d_common_near [webD n ts, nD p, x] h = .ex ⟨"BadNumber", [("number", x), ("what", .str "place")]⟩ h := by
  have e : d_need_place [webD n ts, nD p] h = .ok .non h := need_place (p : Int) (by omega) (by omega)
  simp [d_common_near, b_common_near, b_common_near_3, b_common_near_2, b_common_near_1, need_web, no_place hx, e, fnP, fnK, startD, sSeq, sAsg, sPar, sRet, sRetN, sIf, sExpr, sPass, eV, Rs.out, Rs.bind, Rs.bindN, outO, gT, gTs, gN, Y.e1, Y.e2, eC, aN, aC, eTup, lLst, eFrz, eMut, oMul, oSub, oAdd, oEq, oNe, oLt, oLe, oGt, oGe, oIs, oIsNot, isN, oDiv, oMod, uNeg, uNot, uRev, eqD, ofO, finP, Y.tB, Y.tT, Y.tAnd, Y.tOr, Y.tNot, Y.tYes, eAnd, eOr, eIf, eCh, truth, eB, lB, eIs, eCall, lCall, instD, bLen, bInt, seqOf, lstOf, ownL, oIx, ixD, dctOf, atI, ixN, bMin, bMax, intsOf, minI, maxI, bAll, bAny, bools, lComp, compL, iA, unset, ll, Y.oFld, Y.isO, Y.oIn, Y.oNotIn, Y.sRaise, List.lookup, List.zip, List.zipWith]
/-- an uneven web has no numbers -/
theorem numbers_no (hn : n < 1000) (hu : isN (unevenD n ts) = false) : d_numbers_of [webD n ts] h = .ex ⟨"NotKept", [("witness", unevenD n ts), ("promise", .str "even")]⟩ h := by
  simp [d_numbers_of, b_numbers_of, b_numbers_of_4, b_numbers_of_3, b_numbers_of_2, b_numbers_of_1, need_web, uneven hn, fnP, fnK, startD, sSeq, sAsg, sPar, sRet, sRetN, sIf, sExpr, sPass, eV, Rs.out, Rs.bind, Rs.bindN, outO, gT, gTs, gN, Y.e1, Y.e2, eC, aN, aC, eTup, lLst, eFrz, eMut, oMul, oSub, oAdd, oEq, oNe, oLt, oLe, oGt, oGe, oIs, oIsNot, oDiv, oMod, uNeg, uNot, uRev, eqD, ofO, finP, Y.tB, Y.tT, Y.tAnd, Y.tOr, Y.tNot, Y.tYes, eAnd, eOr, eIf, eCh, truth, eB, lB, eIs, eCall, lCall, instD, bLen, bInt, seqOf, lstOf, ownL, oIx, ixD, dctOf, atI, ixN, bMin, bMax, intsOf, minI, maxI, bAll, bAny, bools, lComp, compL, iA, unset, ll, Y.oFld, Y.isO, Y.oIn, Y.oNotIn, Y.sRaise, List.lookup, List.zip, List.zipWith, hu]
/-- an even web has a tied pair and one that is not -/
theorem even_pairs (T : Ties n ts) (hu : isN (unevenD n ts) = true) (b : Bool) : ∃ t us, pairsOf n ts b = t :: us := by
  have h0 : ¬ (n = 0 ∨ deg n ts 0 = 0 ∨ deg n ts 0 + 1 = n) := fun c => by
    unfold unevenD at hu
    rw [if_pos c] at hu
    cases hu
  have n0 : 0 < n := by omega
  have two : ∃ q, 0 < q ∧ q < n ∧ decide (q ∈ row n ts 0) = b := by
    cases b with
    | true =>
      obtain ⟨q, hq⟩ : ∃ q, q ∈ row n ts 0 := by
        cases e : row n ts 0 with
        | nil => exact absurd (.inr (.inl (by simp [deg, e]))) h0
        | cons q _ => exact ⟨q, by simp⟩
      obtain ⟨h1, h2⟩ := mem_row.mp hq
      refine ⟨q, ?_, h1, by simpa using hq⟩
      cases q with
      | succ q => omega
      | zero =>
        have := of_decide_eq_true h2
        rcases this with m | m
        · have := (T.ok _ m).1; simp at this
        · have := (T.ok _ m).1; simp at this
    | false =>
      refine Classical.byContradiction fun c => h0 (.inr (.inr ?_))
      have all : ∀ q, 0 < q → q < n → q ∈ row n ts 0 := fun q h1 h2 => by
        refine Classical.byContradiction fun z => c ⟨q, h1, h2, by simpa using z⟩
      have no : (0 : Nat) ∉ row n ts 0 := fun hq => by
        have := of_decide_eq_true (mem_row.mp hq).2
        rcases this with m | m
        · have := (T.ok _ m).1; simp at this
        · have := (T.ok _ m).1; simp at this
      have e : row n ts 0 = (List.range n).filter fun q => decide (0 < q) := by
        unfold row
        apply List.filter_congr
        intro q hq
        have lt := List.mem_range.mp hq
        cases q with
        | zero =>
          have : adj ts 0 0 = false := by
            cases ha : adj ts 0 0 with
            | false => rfl
            | true => exact absurd (mem_row.mpr ⟨n0, ha⟩) no
          simp [this]
        | succ q => simp [(mem_row.mp (all (q + 1) (by omega) lt)).2]
      have : deg n ts 0 = n - 1 := by
        unfold deg
        rw [e]
        obtain ⟨m, rfl⟩ : ∃ m, n = m + 1 := ⟨n - 1, by omega⟩
        rw [List.range_succ_eq_map]
        simp [List.filter_map]
        have : ∀ m : Nat, (List.filter ((fun q => decide (0 < q)) ∘ Nat.succ) (List.range m)) = List.range m := fun m => List.filter_eq_self.mpr (by simp)
        simpa using congrArg List.length (this m)
      omega
  obtain ⟨q, q0, q1, hb⟩ := two
  have m : (0, q) ∈ pairsOf n ts b := mem_pairs.mpr ⟨q0, q1, hb⟩
  cases e : pairsOf n ts b with
  | nil => rw [e] at m; cases m
  | cons t us => exact ⟨t, us, rfl⟩
/-- .. and numbers -/
theorem numbers_ok (T : Ties n ts) (hn : n < 1000) (hu : isN (unevenD n ts) = true) : ∃ t us v vs, pairsOf n ts true = t :: us ∧ pairsOf n ts false = v :: vs ∧ d_numbers_of [webD n ts] h = .ok (.tup [nD n, nD (deg n ts 0), nD (cmn n ts t), nD (cmn n ts v)]) h := by
  obtain ⟨t, us, e1⟩ := even_pairs T hu true
  obtain ⟨v, vs, e2⟩ := even_pairs T hu false
  refine ⟨t, us, v, vs, e1, e2, ?_⟩
  have m1 := mem_pairs.mp (show t ∈ pairsOf n ts true by rw [e1]; simp)
  have m2 := mem_pairs.mp (show v ∈ pairsOf n ts false by rw [e2]; simp)
  have n0 : 0 < n := by omega
  have p1 := pairs (h := h) (ts := ts) true hn
  have p2 := pairs (h := h) (ts := ts) false hn
  have x1 : oIx h (.fl ((pairsOf n ts true).map tD)) (.int 0) = some (tD t) := by
    have := ix_fl (h := h) (xs := (pairsOf n ts true).map tD) (i := 0)
    rw [e1] at this ⊢
    simpa using this
  have x2 : oIx h (.fl ((pairsOf n ts false).map tD)) (.int 0) = some (tD v) := by
    have := ix_fl (h := h) (xs := (pairsOf n ts false).map tD) (i := 0)
    rw [e2] at this ⊢
    simpa using this
  have c1 := common (h := h) (ts := ts) (show t.1 < n by omega) m1.2.1 hn
  have c2 := common (h := h) (ts := ts) (show v.1 < n by omega) m2.2.1 hn
  have x3 : oIx h (.tup ((nearOf n ts).map rowN)) (.int 0) = some (rowN (row n ts 0)) := ix_near (p := 0) n0
  have x4 : oIx h (.fl [nD (cmn n ts t), nD (cmn n ts v)]) (.int 0) = some (nD (cmn n ts t)) := by
    have := ix_fl (h := h) (xs := [nD (cmn n ts t), nD (cmn n ts v)]) (i := 0)
    simpa using this
  have x5 : oIx h (.fl [nD (cmn n ts t), nD (cmn n ts v)]) (.int 1) = some (nD (cmn n ts v)) := by
    have := ix_fl (h := h) (xs := [nD (cmn n ts t), nD (cmn n ts v)]) (i := 1)
    simpa using this
  have b1 : bLen h [rowN (comm n ts t.1 t.2)] = some (nD (cmn n ts t)) := by simp [bLen, rowN, seqOf, cmn]; rfl
  have b2 : bLen h [rowN (comm n ts v.1 v.2)] = some (nD (cmn n ts v)) := by simp [bLen, rowN, seqOf, cmn]; rfl
  have b3 : bLen h [rowN (row n ts 0)] = some (nD (deg n ts 0)) := by simp [bLen, rowN, seqOf, deg]; rfl
  have un : d_uneven_in [webD n ts] h = .ok .non h := by
    rw [uneven hn]
    cases e : unevenD n ts with
    | non => rfl
    | _ => rw [e] at hu; cases hu
  have k3 : b_numbers_of_3 [some (webD n ts), some .non, none, none, none] h = b_numbers_of_4 [some (webD n ts), some .non, some (.fl [nD (cmn n ts t), nD (cmn n ts v)]), none, none] h := by
    have i1 : iA (eTup (aC (Y.e2 oIx (eCall d_pairs_in (aC (eV 0) (aC (eC (.bl true)) (aN)))) (eC (.int 0))) (aC (Y.e2 oIx (eCall d_pairs_in (aC (eV 0) (aC (eC (.bl false)) (aN)))) (eC (.int 0))) (aN)))) [some (webD n ts), some .non, none, none, none] h = .ok [tD t, tD v] h := by
      simp [iA, eTup, aC, aN, Y.e2, eCall, eV, eC, Rs.bind, p1, p2, x1, x2, ofO, Y.ll]
    have l1 : lComp (iA (eTup (aC (Y.e2 oIx (eCall d_pairs_in (aC (eV 0) (aC (eC (.bl true)) (aN)))) (eC (.int 0))) (aC (Y.e2 oIx (eCall d_pairs_in (aC (eV 0) (aC (eC (.bl false)) (aN)))) (eC (.int 0))) (aN))))) (gT [gN 3, gN 4]) Y.tYes (eB bLen (aC (eCall d_common_in (aC (eV 0) (aC (eV 3) (aC (eV 4) (aN))))) (aN))) [3, 4] [some (webD n ts), some .non, none, none, none] h =
        .ok [nD (cmn n ts t), nD (cmn n ts v)] h := by
      simp [lComp, i1, Rs.bind, Rs.bindN, unset, compL, Y.tYes, gT, gTs, gN, tD, eB, aC, aN, eCall, eV, c1, c2, b1, b2, ofO, Y.ll]
    have key : ∀ A : Lv, A [some (webD n ts), some .non, none, none, none] h = .ok [nD (cmn n ts t), nD (cmn n ts v)] h → sSeq (sAsg (gN 2) (eFrz A)) b_numbers_of_4 [some (webD n ts), some .non, none, none, none] h = b_numbers_of_4 [some (webD n ts), some .non, some (.fl [nD (cmn n ts t), nD (cmn n ts v)]), none, none] h := fun A e => by
      simp [sSeq, sAsg, eFrz, e, Rs.bind, Rs.out, gN, outO]
    exact key _ l1
  have k4 : b_numbers_of_4 [some (webD n ts), some .non, some (.fl [nD (cmn n ts t), nD (cmn n ts v)]), none, none] h = .rt (.tup [nD n, nD (deg n ts 0), nD (cmn n ts t), nD (cmn n ts v)]) h := by
    simp [b_numbers_of_4, sRet, eTup, aC, aN, Y.e1, Y.e2, eV, eC, eB, Rs.bind, Rs.out, fld_p, fld_n, ofO, x3, x4, x5, b3, Y.ll]
  have k0 : d_numbers_of [webD n ts] h = (match b_numbers_of_3 [some (webD n ts), some .non, none, none, none] h with | .rt d h' => finP h d h' | .nx _ h' => finP h .non h' | .ex e _ h' => .ex e h' | _ => .bad) := by
    simp [d_numbers_of, b_numbers_of, b_numbers_of_1, b_numbers_of_2, fnP, startD, sSeq, sExpr, sAsg, sIf, sPass, eCall, aC, aN, eV, eC, Rs.bind, Rs.out, need_web, un, gN, outO, Y.tB, Y.e2, oIsNot, isN, ofO]
    try rfl
  rw [k0, k3, k4]
  simp [finP]
/-! ### no Web -/
theorem bad_even (hx : isO "Web" h x = some (.bl false)) : d_is_even [x] h = .ex ⟨"BadWeb", [("web", x)]⟩ h := by simp [d_is_even, b_is_even, b_is_even_1, no_web hx, fnP, fnK, startD, sSeq, sAsg, sPar, sRet, sRetN, sIf, sExpr, sPass, eV, Rs.out, Rs.bind, Rs.bindN, outO, gT, gTs, gN, Y.e1, Y.e2, eC, aN, aC, eTup, lLst, eFrz, eMut, oMul, oSub, oAdd, oEq, oNe, oLt, oLe, oGt, oGe, oIs, oIsNot, isN, oDiv, oMod, uNeg, uNot, uRev, eqD, ofO, finP, Y.tB, Y.tT, Y.tAnd, Y.tOr, Y.tNot, Y.tYes, eAnd, eOr, eIf, eCh, truth, eB, lB, eIs, eCall, lCall, instD, bLen, bInt, seqOf, lstOf, ownL, oIx, ixD, dctOf, atI, ixN, bMin, bMax, intsOf, minI, maxI, bAll, bAny, bools, lComp, compL, iA, unset, ll, Y.oFld, Y.oIn, Y.oNotIn, Y.sRaise, List.lookup, List.zip, List.zipWith]
theorem bad_numbers (hx : isO "Web" h x = some (.bl false)) : d_numbers_of [x] h = .ex ⟨"BadWeb", [("web", x)]⟩ h := by simp [d_numbers_of, b_numbers_of, b_numbers_of_4, b_numbers_of_3, b_numbers_of_2, b_numbers_of_1, no_web hx, fnP, fnK, startD, sSeq, sAsg, sPar, sRet, sRetN, sIf, sExpr, sPass, eV, Rs.out, Rs.bind, Rs.bindN, outO, gT, gTs, gN, Y.e1, Y.e2, eC, aN, aC, eTup, lLst, eFrz, eMut, oMul, oSub, oAdd, oEq, oNe, oLt, oLe, oGt, oGe, oIs, oIsNot, isN, oDiv, oMod, uNeg, uNot, uRev, eqD, ofO, finP, Y.tB, Y.tT, Y.tAnd, Y.tOr, Y.tNot, Y.tYes, eAnd, eOr, eIf, eCh, truth, eB, lB, eIs, eCall, lCall, instD, bLen, bInt, seqOf, lstOf, ownL, oIx, ixD, dctOf, atI, ixN, bMin, bMax, intsOf, minI, maxI, bAll, bAny, bools, lComp, compL, iA, unset, ll, Y.oFld, Y.oIn, Y.oNotIn, Y.sRaise, List.lookup, List.zip, List.zipWith]
end
end Pg
end

section
set_option Elab.async false
set_option linter.all false
set_option maxRecDepth 100000
set_option maxHeartbeats 1000000
/-! WT: the ties of a drawn web. -/
namespace Pg
open PySem Y L2
def tl23 : Sv := sIf (Y.tT (eV 6)) (sApp (eV 3) (eTup (aC (eV 4) (aC (eV 5) (aN))))) (sPass)
def tl22 (F : Fn) : Sv := sSeq (sIf (Y.tB (Y.e2 oEq (eV 2) (eC (.int 1)))) (sAsg (gN 6) (Y.e2 oGt (eCall F (aC (eV 0) (aC (eC (.int 4)) (aN)))) (eC (.int 0)))) (sPass))
    (tl23)
def tl21 (F : Fn) : Sv := sSeq (sIf (Y.tB (Y.e2 oEq (eV 2) (eC (.int 0)))) (sAsg (gN 6) (eOr (Y.e2 oEq (eV 5) (Y.e2 oAdd (eV 4) (eC (.int 1)))) (Y.e2 oEq (eCall F (aC (eV 0) (aC (eC (.int 7)) (aN)))) (eC (.int 0))))) (sPass))
    (tl22 F)
def tl2 (F : Fn) : Sv := sSeq (sAsg (gN 6) (Y.e2 oEq (eCall F (aC (eV 0) (aC (eC (.int 2)) (aN)))) (eC (.int 0))))
    (tl21 F)
def tl1 (F : Fn) : Sv := sFor (iR2 (aC (Y.e2 oAdd (eV 4) (eC (.int 1))) (aC (eV 1) (aN)))) (gN 5) (tl2 F)
def bTies2 : Sv := sRet (eB bTuple (aC (eV 3) (aN)))
def bTies1 (F : Fn) : Sv := sSeq (sFor (iR1 (aC (eV 1) (aN))) (gN 4) (tl1 F))
    (bTies2)
def bTies (F : Fn) : Sv := sSeq (sPar 2 3 (aC (eCall F (aC (eV 0) (aC (eC (.int 4)) (aN)))) (aC (eMut (lLst (aN))) aN)))
    (bTies1 F)
def dTies (F : Fn) : Fn := fnP 7 (bTies F)
section
variable {F : Fn} {o x : Ob} {t : Hm} {N n p q : Nat}
theorem pen_any {t u : Hm} (hp : PenAt (o :: t) 0 N) : PenAt (o :: u) 0 N := by
  obtain ⟨cs, q, g, c, f, hk, r⟩ := hp.ex
  exact ⟨cs, q, g, c, f, by simpa using hk, r⟩
theorem drawT (hF : Draws F) {t : Hm} (hp : PenAt [o] 0 (N + 1)) {many : Int} (m0 : 0 < many) (m1 : many < 1073741824) : ∃ (r : Int) (o' : Ob), F [.loc 0, .int many] (o :: t) = .ok (.int r) (o' :: t) ∧ 0 ≤ r ∧ r < many ∧ PenAt [o'] 0 N := by
  obtain ⟨r, o', e, r0, r1, hq⟩ := hF (pen_any (u := t) hp) m0 m1
  exact ⟨r, o', e, r0, r1, pen_any (t := t) hq⟩
theorem last_get {x : Ob} : (o :: (t ++ [x]))[t.length + 1]? = some x := by simp
theorem last_set {x y : Ob} : (o :: (t ++ [x])).set (t.length + 1) y = o :: (t ++ [y]) := by simp
theorem pen_low (n : Nat) (cs : List Int) (p g c f : Int) : Ob.low n (penO cs p g c f) = true := by
  have : ∀ cs : List Int, D.lowL n (cs.map .int) = true := fun cs => by
    induction cs with
    | nil => rfl
    | cons c cs ih => simp [D.lowL, D.low, ih]
  simp [penO, kvP, Ob.low, D.lowL, D.low, this]
theorem pen_lw (hp : PenAt [o] 0 N) (n : Nat) : Ob.low n o = true := by
  obtain ⟨cs, p, g, c, f, hk, _⟩ := hp.ex
  simp at hk
  rw [hk]; exact pen_low n cs p g c f
theorem seal_pen {t l : Hm} {o o' : Ob} (ho : Ob.low (t.length + 1) o' = true) : sealed (t.length + 1) (o :: t) (o' :: (t ++ l)) = true := by
  unfold sealed
  rw [List.take_succ_cons, List.take_left', List.zip_cons_cons, List.all_cons]
  · simp only [ho, Bool.or_true, Bool.true_and]
    rw [List.all_eq_true]
    intro p m
    have : ∀ (t : Hm) (p : Ob × Ob), p ∈ t.zip t → p.1 = p.2 := fun t p m => by
      induction t with
      | nil => cases m
      | cons a t ih =>
        rw [List.zip_cons_cons] at m
        rcases List.mem_cons.mp m with rfl | m
        · rfl
        · exact ih m
    simp [this t p m]
  · rfl
theorem fin_pen {t l : Hm} {o o' : Ob} {d : D} (hd : D.low (t.length + 1) d = true) (ho : Ob.low (t.length + 1) o' = true) : finP (o :: t) d (o' :: (t ++ l)) = .ok d (o' :: t) := by
  have e : (o' :: (t ++ l)).take (t.length + 1) = o' :: t := by rw [List.take_succ_cons, List.take_left' rfl]
  unfold finP
  split
  · rename_i hl
    have : l = [] := by
      have : (t ++ l).length = t.length := by simpa using hl
      rw [List.length_append] at this
      exact List.length_eq_zero_iff.mp (by omega)
    subst this
    simp
  · rw [List.length_cons, hd, seal_pen ho, e]
    simp
theorem finL_pen {t l : Hm} {o o' : Ob} {ds : List D} (hd : D.lowL (t.length + 1) ds = true) (ho : Ob.low (t.length + 1) o' = true) : finL (o :: t) (.rl ds (o' :: (t ++ l))) = .ok ds (o' :: t) := by
  have e : (o' :: (t ++ l)).take (t.length + 1) = o' :: t := by rw [List.take_succ_cons, List.take_left' rfl]
  unfold finL
  simp only
  split
  · rename_i hl
    have : l = [] := by
      have : (t ++ l).length = t.length := by simpa using hl
      rw [List.length_append] at this
      exact List.length_eq_zero_iff.mp (by omega)
    subst this
    simp
  · rw [List.length_cons, hd, seal_pen ho, e]
    simp
abbrev tS (t : Hm) (n : Nat) (way : Int) (p s5 s6 : Option D) : Sl := [some (.loc 0), some (nD n), some (.int way), some (.loc (t.length + 1)), p, s5, s6]
theorem push_tie {acc : List (Nat × Nat)} {way : Int} {b : Bool} (hl : acc.length < 100000) : tl23 (tS t n way (some (nD p)) (some (nD q)) (some (.bl b))) (o :: (t ++ [.lst (acc.map tD)])) = .nx (tS t n way (some (nD p)) (some (nD q)) (some (.bl b))) (o :: (t ++ [.lst ((if b then acc ++ [(p, q)] else acc).map tD)])) := by
  have l1 : acc.length < line := Nat.lt_of_lt_of_le hl (by decide)
  cases b <;> simp [tl23, sIf, Y.tT, eV, Rs.bind, Rs.out, truth, ofO, sPass, sApp, isLst, eTup, aC, aN, appD, l1, Y.ll, tD]
/-- one pair -/
theorem tl2_ok (hF : Draws F) {acc : List (Nat × Nat)} {way : Int} {s6 : Option D} (hl : acc.length < 100000) (hp : PenAt [o] 0 (N + 3)) : ∃ (b : Bool) (o' : Ob), tl2 F (tS t n way (some (nD p)) (some (nD q)) s6) (o :: (t ++ [.lst (acc.map tD)])) =
    .nx (tS t n way (some (nD p)) (some (nD q)) (some (.bl b))) (o' :: (t ++ [.lst ((if b then acc ++ [(p, q)] else acc).map tD)])) ∧ PenAt [o'] 0 N := by
  obtain ⟨r, o1, e1, _, _, h1⟩ := drawT (t := t ++ [.lst (acc.map tD)]) hF hp (many := 2) (by decide) (by decide)
  have s1 : tl2 F (tS t n way (some (nD p)) (some (nD q)) s6) (o :: (t ++ [.lst (acc.map tD)])) = tl21 F (tS t n way (some (nD p)) (some (nD q)) (some (.bl (decide (r = 0))))) (o1 :: (t ++ [.lst (acc.map tD)])) := by
    simp [tl2, sSeq, sAsg, Y.e2, eCall, aC, aN, eV, eC, Rs.bind, Rs.out, e1, oEq, eqD, ofO, gN, outO]
  rw [s1]
  have s2 : ∃ (b : Bool) (o2 : Ob), tl21 F (tS t n way (some (nD p)) (some (nD q)) (some (.bl (decide (r = 0))))) (o1 :: (t ++ [.lst (acc.map tD)])) = tl22 F (tS t n way (some (nD p)) (some (nD q)) (some (.bl b))) (o2 :: (t ++ [.lst (acc.map tD)])) ∧ PenAt [o2] 0 (N + 1) := by
    by_cases w : way = 0
    · by_cases c : (q : Int) = (p : Int) + 1
      · refine ⟨true, o1, ?_, h1.mono (by omega)⟩
        simp [tl21, sSeq, sIf, sAsg, Y.tB, Y.e2, eV, eC, Rs.bind, Rs.out, oEq, eqD, ofO, gN, outO, eOr, oAdd, nD, w, c, tS]
      · obtain ⟨r2, o2, e2, _, _, h2⟩ := drawT (t := t ++ [.lst (acc.map tD)]) hF h1 (many := 7) (by decide) (by decide)
        refine ⟨decide (r2 = 0), o2, ?_, h2⟩
        simp [tl21, sSeq, sIf, sAsg, Y.tB, Y.e2, eCall, aC, aN, eV, eC, Rs.bind, Rs.out, oEq, eqD, ofO, gN, outO, eOr, oAdd, nD, w, c, e2, tS]
    · refine ⟨decide (r = 0), o1, ?_, h1.mono (by omega)⟩
      simp [tl21, sSeq, sIf, sPass, Y.tB, Y.e2, eV, eC, Rs.bind, Rs.out, oEq, eqD, ofO, w]
  obtain ⟨b, o2, e2, h2⟩ := s2
  rw [e2]
  by_cases w : way = 1
  · obtain ⟨r3, o3, e3, _, _, h3⟩ := drawT (t := t ++ [.lst (acc.map tD)]) hF h2 (many := 4) (by decide) (by decide)
    refine ⟨decide (0 < r3), o3, ?_, h3⟩
    rw [← push_tie hl]
    simp [tl22, sSeq, sIf, sAsg, Y.tB, Y.e2, eCall, aC, aN, eV, eC, Rs.bind, Rs.out, oEq, eqD, oGt, ofO, gN, outO, w, e3]
  · refine ⟨b, o2, ?_, h2.mono (by omega)⟩
    rw [← push_tie hl]
    simp [tl22, sSeq, sIf, sPass, Y.tB, Y.e2, eV, eC, Rs.bind, Rs.out, oEq, eqD, ofO, w]
structure Acc (n p q : Nat) (acc : List (Nat × Nat)) : Prop where
  ok : ∀ t ∈ acc, t.1 < t.2 ∧ t.2 < n
  asc : acc.Pairwise lt2
  lt : ∀ t ∈ acc, lt2 t (p, q)
theorem Acc.step {acc : List (Nat × Nat)} (A : Acc n p q acc) (b : Bool) (h1 : p < q) (h2 : q < n) : Acc n p (q + 1) (if b then acc ++ [(p, q)] else acc) := by
  cases b with
  | false => exact ⟨A.ok, A.asc, fun t m => by rcases A.lt t m with h | h; exact .inl h; exact .inr ⟨h.1, by have := h.2; simp at this ⊢; omega⟩⟩
  | true =>
    refine ⟨fun t m => ?_, ?_, fun t m => ?_⟩
    · simp only [if_true, List.mem_append, List.mem_singleton] at m
      rcases m with m | rfl
      · exact A.ok t m
      · exact ⟨h1, h2⟩
    · simp only [if_true, List.pairwise_append]
      exact ⟨A.asc, by simp, fun a ha b hb => by simp at hb; subst hb; exact A.lt a ha⟩
    · simp only [if_true, List.mem_append, List.mem_singleton] at m
      rcases m with m | rfl
      · rcases A.lt t m with h | h; exact .inl h; exact .inr ⟨h.1, by have := h.2; simp at this ⊢; omega⟩
      · exact .inr ⟨rfl, by simp⟩
theorem in_loop (hF : Draws F) {way : Int} : ∀ (m q : Nat) (acc : List (Nat × Nat)) (o : Ob) (s5 s6 : Option D), q + m = n → p < q → Acc n p q acc → acc.length + m < 100000 → PenAt [o] 0 (N + 3 * m) →
    ∃ acc' o' s5' s6', forL (gN 5) (tl2 F) ((List.range' q m).map nD) (tS t n way (some (nD p)) s5 s6) (o :: (t ++ [.lst (acc.map tD)])) = .nx (tS t n way (some (nD p)) s5' s6') (o' :: (t ++ [.lst (acc'.map tD)])) ∧ Acc n p n acc' ∧ acc'.length ≤ acc.length + m ∧ PenAt [o'] 0 N
  | 0, q, acc, o, s5, s6, e, _, A, _, hp => ⟨acc, o, s5, s6, rfl, by simp at e; subst e; exact A, by simp, by simpa using hp⟩
  | m + 1, q, acc, o, s5, s6, e, lt, A, hl, hp => by
    obtain ⟨b, o1, e1, h1⟩ := tl2_ok (t := t) (n := n) (p := p) (q := q) (way := way) (s6 := s6) hF (acc := acc) (N := N + 3 * m) (by omega) (hp.mono (by omega))
    have l1 : (if b then acc ++ [(p, q)] else acc).length ≤ acc.length + 1 := by cases b <;> simp
    obtain ⟨acc', o', s5', s6', e2, A2, l2, h2⟩ := in_loop hF m (q + 1) _ o1 (some (nD q)) (some (.bl b)) (by omega) (by omega) (A.step b lt (by omega)) (by omega) h1
    refine ⟨acc', o', s5', s6', ?_, A2, by omega, h2⟩
    rw [← e2, List.range'_succ, List.map_cons]
    simp only [forL, gN, List.set_cons_succ, List.set_cons_zero, e1]
theorem out_loop (hF : Draws F) {way : Int} (hn : n < 1000) : ∀ (m p : Nat) (acc : List (Nat × Nat)) (o : Ob) (s4 s5 s6 : Option D), p + m = n → (∀ t ∈ acc, t.1 < t.2 ∧ t.2 < n) → acc.Pairwise lt2 → (∀ t ∈ acc, t.1 < p) → acc.length + n * m < 100000 → PenAt [o] 0 (N + 3 * (n * m)) →
    ∃ acc' o' s4' s5' s6', forL (gN 4) (tl1 F) ((List.range' p m).map nD) (tS t n way s4 s5 s6) (o :: (t ++ [.lst (acc.map tD)])) = .nx (tS t n way s4' s5' s6') (o' :: (t ++ [.lst (acc'.map tD)])) ∧ Ties n acc' ∧ acc'.length ≤ acc.length + n * m ∧ PenAt [o'] 0 N
  | 0, p, acc, o, s4, s5, s6, e, k1, k2, k3, _, hp => ⟨acc, o, s4, s5, s6, rfl, ⟨k1, k2⟩, by simp, by simpa using hp⟩
  | m + 1, p, acc, o, s4, s5, s6, e, k1, k2, k3, hl, hp => by
    have mm : n * (m + 1) = n * m + n := Nat.mul_succ n m
    obtain ⟨acc1, o1, s51, s61, e1, A1, l1, h1⟩ := in_loop (t := t) (n := n) (p := p) (way := way) hF (N := N + 3 * (n * m)) (n - (p + 1)) (p + 1) acc o s5 s6 (by omega) (by omega) ⟨k1, k2, fun t m => .inl (k3 t m)⟩ (by omega) (hp.mono (by omega))
    obtain ⟨acc', o', s4', s5', s6', e2, A2, l2, h2⟩ := out_loop hF hn m (p + 1) acc1 o1 (some (nD p)) s51 s61 (by omega) A1.ok A1.asc (fun t m => by
      rcases A1.lt t m with h | h
      · simp at h; omega
      · have := h.1; simp at this; omega) (by omega) h1
    refine ⟨acc', o', s4', s5', s6', ?_, A2, by omega, h2⟩
    have st : tl1 F (tS t n way (some (nD p)) s5 s6) (o :: (t ++ [.lst (acc.map tD)])) = .nx (tS t n way (some (nD p)) s51 s61) (o1 :: (t ++ [.lst (acc1.map tD)])) := by
      have i1 : iR2 (aC (Y.e2 oAdd (eV 4) (eC (.int 1))) (aC (eV 1) (aN))) (tS t n way (some (nD p)) s5 s6) (o :: (t ++ [.lst (acc.map tD)])) = .ok ((List.range' (p + 1) (n - (p + 1))).map nD) (o :: (t ++ [.lst (acc.map tD)])) := by
        have a2 : aC (Y.e2 oAdd (eV 4) (eC (.int 1))) (aC (eV 1) (aN)) (tS t n way (some (nD p)) s5 s6) (o :: (t ++ [.lst (acc.map tD)])) = .ok [.int ((p + 1 : Nat) : Int), .int (n : Int)] (o :: (t ++ [.lst (acc.map tD)])) := by
          simp [aC, aN, Y.e2, eV, eC, Rs.bind, oAdd, nD, ofO]
        have e0 : ((n : Int) - ((p + 1 : Nat) : Int)).toNat = n - (p + 1) := by omega
        unfold iR2
        rw [a2]
        simp only [Rs.bind]
        rw [if_pos (by rw [small_nat (n := p + 1) (by omega), small_nat (n := n) (by omega)]; rfl), e0, rangeD_at]
        rfl
      unfold tl1 sFor
      rw [i1]
      exact e1
    rw [← e2, List.range'_succ, List.map_cons]
    have g4 : gN 4 (nD p) (tS t n way s4 s5 s6) = some (tS t n way (some (nD p)) s5 s6) := rfl
    simp only [forL, g4, st]
theorem ties_ok (hF : Draws F) (hn : n < 200) (hp : PenAt [o] 0 (N + 1 + 3 * (n * n))) : ∃ ts o', dTies F [.loc 0, nD n] (o :: t) = .ok (.tup (ts.map tD)) (o' :: t) ∧ Ties n ts ∧ ts.length ≤ n * n ∧ PenAt [o'] 0 N := by
  obtain ⟨way, o1, e1, _, _, h1⟩ := drawT (t := t) hF (N := N + 3 * (n * n)) (hp.mono (by omega)) (many := 4) (by decide) (by decide)
  have sq : n * n < 40000 := Nat.lt_of_le_of_lt (Nat.mul_le_mul (show n ≤ 199 by omega) (show n ≤ 199 by omega)) (by decide)
  obtain ⟨ts, o2, s4, s5, s6, e2, T, l2, h2⟩ := out_loop (t := t) hF (way := way) (n := n) (N := N) (by omega) n 0 [] o1 none none none (by omega) (by simp) (by simp) (by simp) (by simpa using by omega) (h1.mono (by omega))
  refine ⟨ts, o2, ?_, T, by simpa using l2, h2⟩
  have i1 : iR1 (aC (eV 1) (aN)) (tS t n way none none none) (o1 :: (t ++ [.lst []])) = .ok ((List.range' 0 n).map nD) (o1 :: (t ++ [.lst []])) := by
    have a2 : aC (eV 1) (aN) (tS t n way none none none) (o1 :: (t ++ [.lst []])) = .ok [.int (n : Int)] (o1 :: (t ++ [.lst []])) := by simp [aC, aN, eV, Rs.bind, nD]
    unfold iR1
    rw [a2]
    simp only [Rs.bind]
    rw [if_pos (small_nat (by omega)), Int.toNat_natCast, rangeD_eq, List.range_eq_range']
    rfl
  have e3 : D.low (t.length + 1) (.tup (ts.map tD)) = true := by simp [D.low, low_ties]
  have e4 := pen_lw h2 (t.length + 1)
  have k0 : sPar 2 3 (aC (eCall F (aC (eV 0) (aC (eC (.int 4)) (aN)))) (aC (eMut (lLst (aN))) aN)) (startD 7 [.loc 0, nD n]) (o :: t) = .nx (tS t n way none none none) (o1 :: (t ++ [.lst []])) := by
    simp [sPar, aC, aN, eCall, eV, eC, startD, Rs.bind, Rs.out, e1, eMut, lLst, Y.ll]
  have k1 : sFor (iR1 (aC (eV 1) (aN))) (gN 4) (tl1 F) (tS t n way none none none) (o1 :: (t ++ [.lst []])) = .nx (tS t n way s4 s5 s6) (o2 :: (t ++ [.lst (ts.map tD)])) := by
    unfold sFor
    rw [i1]
    exact e2
  have k2 : bTies2 (tS t n way s4 s5 s6) (o2 :: (t ++ [.lst (ts.map tD)])) = .rt (.tup (ts.map tD)) (o2 :: (t ++ [.lst (ts.map tD)])) := by
    simp [bTies2, sRet, eB, aC, aN, eV, Rs.bind, Rs.out, bTuple, lstOf, ofO]
  unfold dTies fnP bTies sSeq
  rw [k0]
  simp only [bTies1, sSeq, k1, k2]
  exact fin_pen e3 e4
end
end Pg
end

section
set_option Elab.async false
set_option maxRecDepth 100000
set_option linter.all false
set_option maxHeartbeats 1000000
/-! WQ: the numbers of even webs (from k26). -/
namespace Pq
open Y PySem L2 Pg
abbrev quad (n k l m : Int) : D := .tup [.int n, .int k, .int l, .int m]
/-- numbers as they are drawn -/
structure Gd (n k l m : Int) : Prop where
  k0 : 0 < k
  kn : k < n - 1
  l0 : 0 ≤ l
  lk : l < k
  m0 : 0 ≤ m
  me : m ≤ k
  n1 : n < 1000
def xOf (k l m : Int) : Int := (l - m) * (l - m) + 4 * (k - m)
section
variable {n k l m : Int} {h : Hm}
theorem bal (s : Gd n k l m) : d_balanced_in [quad n k l m] h = .ok (.bl (decide (k * (k - l - 1) = (n - k - 1) * m))) h := by
  obtain ⟨k0, kn, l0, lk, m0, me, n1⟩ := s
  have a1 : mulOk k (k - l - 1) = true := mulOk_l (by omega) (by omega)
  have a2 : mulOk (n - k - 1) m = true := mulOk_l (by omega) (by omega)
  simp [d_balanced_in, b_balanced_in, b_balanced_in_1, fnP, fnK, startD, sSeq, sAsg, sPar, sRet, sRetN, sIf, sExpr, sPass, eV, Rs.out, Rs.bind, Rs.bindN, outO, gT, gTs, gN, Y.e1, Y.e2, eC, aN, aC, eTup, lLst, eFrz, eMut, oMul, oSub, oAdd, oEq, oNe, oLt, oLe, oGt, oGe, oIs, oIsNot, isN, oDiv, oMod, uNeg, uNot, uRev, eqD, ofO, finP, Y.tB, Y.tT, Y.tAnd, Y.tOr, Y.tNot, Y.tYes, eAnd, eOr, eIf, eCh, truth, eB, lB, eIs, eCall, lCall, instD, bLen, bInt, seqOf, lstOf, ownL, oIx, ixD, dctOf, atI, ixN, bMin, bMax, intsOf, minI, maxI, bAll, bAny, bools, lComp, compL, iA, unset, ll, Y.oFld, Y.isO, Y.oIn, Y.oNotIn, Y.sRaise, List.lookup, List.zip, List.zipWith, a1, a2]
theorem whole (i : Int) : d_is_whole [.int i] h = .ok (.bl true) h := by
  simp [d_is_whole, b_is_whole, fnP, fnK, startD, sSeq, sAsg, sPar, sRet, sRetN, sIf, sExpr, sPass, eV, Rs.out, Rs.bind, Rs.bindN, outO, gT, gTs, gN, Y.e1, Y.e2, eC, aN, aC, eTup, lLst, eFrz, eMut, oMul, oSub, oAdd, oEq, oNe, oLt, oLe, oGt, oGe, oIs, oIsNot, isN, oDiv, oMod, uNeg, uNot, uRev, eqD, ofO, finP, Y.tB, Y.tT, Y.tAnd, Y.tOr, Y.tNot, Y.tYes, eAnd, eOr, eIf, eCh, truth, eB, lB, eIs, eCall, lCall, instD, bLen, bInt, seqOf, lstOf, ownL, oIx, ixD, dctOf, atI, ixN, bMin, bMax, intsOf, minI, maxI, bAll, bAny, bools, lComp, compL, iA, unset, ll, Y.oFld, Y.isO, Y.oIn, Y.oNotIn, Y.sRaise, List.lookup, List.zip, List.zipWith]
theorem count (i : Int) : d_is_count [.int i] h = .ok (.bl (decide (0 ≤ i))) h := by
  simp [d_is_count, b_is_count, whole, fnP, fnK, startD, sSeq, sAsg, sPar, sRet, sRetN, sIf, sExpr, sPass, eV, Rs.out, Rs.bind, Rs.bindN, outO, gT, gTs, gN, Y.e1, Y.e2, eC, aN, aC, eTup, lLst, eFrz, eMut, oMul, oSub, oAdd, oEq, oNe, oLt, oLe, oGt, oGe, oIs, oIsNot, isN, oDiv, oMod, uNeg, uNot, uRev, eqD, ofO, finP, Y.tB, Y.tT, Y.tAnd, Y.tOr, Y.tNot, Y.tYes, eAnd, eOr, eIf, eCh, truth, eB, lB, eIs, eCall, lCall, instD, bLen, bInt, seqOf, lstOf, ownL, oIx, ixD, dctOf, atI, ixN, bMin, bMax, intsOf, minI, maxI, bAll, bAny, bools, lComp, compL, iA, unset, ll, Y.oFld, Y.isO, Y.oIn, Y.oNotIn, Y.sRaise, List.lookup, List.zip, List.zipWith]
theorem are (s : Gd n k l m) : d_are_numbers [quad n k l m] h = .ok (.bl true) h := by
  obtain ⟨k0, kn, l0, lk, m0, me, n1⟩ := s
  have n0 : 0 ≤ n := by omega
  have k0' : 0 ≤ k := by omega
  simp [d_are_numbers, b_are_numbers, b_are_numbers_2, b_are_numbers_1, quad, count, fnP, fnK, startD, sSeq, sAsg, sPar, sRet, sRetN, sIf, sExpr, sPass, eV, Rs.out, Rs.bind, Rs.bindN, outO, gT, gTs, gN, Y.e1, Y.e2, eC, aN, aC, eTup, lLst, eFrz, eMut, oMul, oSub, oAdd, oEq, oNe, oLt, oLe, oGt, oGe, oIs, oIsNot, isN, oDiv, oMod, uNeg, uNot, uRev, eqD, ofO, finP, Y.tB, Y.tT, Y.tAnd, Y.tOr, Y.tNot, Y.tYes, eAnd, eOr, eIf, eCh, truth, eB, lB, eIs, eCall, lCall, instD, bLen, bInt, seqOf, lstOf, ownL, oIx, ixD, dctOf, atI, ixN, bMin, bMax, intsOf, minI, maxI, bAll, bAny, bools, lComp, compL, iA, unset, ll, Y.oFld, Y.isO, Y.oIn, Y.oNotIn, Y.sRaise, List.lookup, List.zip, List.zipWith, n0, k0, k0', l0, m0, lk, me, kn]
theorem need (s : Gd n k l m) : d_need_numbers [quad n k l m] h = .ok .non h := by
  simp [d_need_numbers, b_need_numbers, are s, fnP, fnK, startD, sSeq, sAsg, sPar, sRet, sRetN, sIf, sExpr, sPass, eV, Rs.out, Rs.bind, Rs.bindN, outO, gT, gTs, gN, Y.e1, Y.e2, eC, aN, aC, eTup, lLst, eFrz, eMut, oMul, oSub, oAdd, oEq, oNe, oLt, oLe, oGt, oGe, oIs, oIsNot, isN, oDiv, oMod, uNeg, uNot, uRev, eqD, ofO, finP, Y.tB, Y.tT, Y.tAnd, Y.tOr, Y.tNot, Y.tYes, eAnd, eOr, eIf, eCh, truth, eB, lB, eIs, eCall, lCall, instD, bLen, bInt, seqOf, lstOf, ownL, oIx, ixD, dctOf, atI, ixN, bMin, bMax, intsOf, minI, maxI, bAll, bAny, bools, lComp, compL, iA, unset, ll, Y.oFld, Y.isO, Y.oIn, Y.oNotIn, Y.sRaise, List.lookup, List.zip, List.zipWith]
theorem square (s : Gd n k l m) : d_square_of_difference [quad n k l m] h = .ok (.int (xOf k l m)) h := by
  obtain ⟨k0, kn, l0, lk, m0, me, n1⟩ := s
  have a1 : mulOk (l - m) (l - m) = true := mulOk_l (by omega) (by omega)
  have a2 : mulOk 4 (k - m) = true := mulOk_l (by omega) (by omega)
  have ex : (l - m) * (l - m) + 4 * (k - m) = xOf k l m := rfl
  simp [d_square_of_difference, b_square_of_difference, b_square_of_difference_1, fnP, fnK, startD, sSeq, sAsg, sPar, sRet, sRetN, sIf, sExpr, sPass, eV, Rs.out, Rs.bind, Rs.bindN, outO, gT, gTs, gN, Y.e1, Y.e2, eC, aN, aC, eTup, lLst, eFrz, eMut, oMul, oSub, oAdd, oEq, oNe, oLt, oLe, oGt, oGe, oIs, oIsNot, isN, oDiv, oMod, uNeg, uNot, uRev, eqD, ofO, finP, Y.tB, Y.tT, Y.tAnd, Y.tOr, Y.tNot, Y.tYes, eAnd, eOr, eIf, eCh, truth, eB, lB, eIs, eCall, lCall, instD, bLen, bInt, seqOf, lstOf, ownL, oIx, ixD, dctOf, atI, ixN, bMin, bMax, intsOf, minI, maxI, bAll, bAny, bools, lComp, compL, iA, unset, ll, Y.oFld, Y.isO, Y.oIn, Y.oNotIn, Y.sRaise, List.lookup, List.zip, List.zipWith, a1, a2, ex]
theorem turned (s : Gd n k l m) : d_turned_in [quad n k l m] h = .ok (quad n (n - k - 1) (n - 2 * k + m - 2) (n - 2 * k + l)) h := by
  obtain ⟨k0, kn, l0, lk, m0, me, n1⟩ := s
  have a1 : mulOk 2 k = true := mulOk_l (by omega) (by omega)
  simp [d_turned_in, b_turned_in, b_turned_in_1, fnP, fnK, startD, sSeq, sAsg, sPar, sRet, sRetN, sIf, sExpr, sPass, eV, Rs.out, Rs.bind, Rs.bindN, outO, gT, gTs, gN, Y.e1, Y.e2, eC, aN, aC, eTup, lLst, eFrz, eMut, oMul, oSub, oAdd, oEq, oNe, oLt, oLe, oGt, oGe, oIs, oIsNot, isN, oDiv, oMod, uNeg, uNot, uRev, eqD, ofO, finP, Y.tB, Y.tT, Y.tAnd, Y.tOr, Y.tNot, Y.tYes, eAnd, eOr, eIf, eCh, truth, eB, lB, eIs, eCall, lCall, instD, bLen, bInt, seqOf, lstOf, ownL, oIx, ixD, dctOf, atI, ixN, bMin, bMax, intsOf, minI, maxI, bAll, bAny, bools, lComp, compL, iA, unset, ll, Y.oFld, Y.isO, Y.oIn, Y.oNotIn, Y.sRaise, List.lookup, List.zip, List.zipWith, a1]
theorem are_bal (s : Gd n k l m) : d_are_balanced [quad n k l m] h = .ok (.bl (decide (k * (k - l - 1) = (n - k - 1) * m))) h := by
  simp [d_are_balanced, b_are_balanced, b_are_balanced_1, need s, bal s, fnP, fnK, startD, sSeq, sAsg, sPar, sRet, sRetN, sIf, sExpr, sPass, eV, Rs.out, Rs.bind, Rs.bindN, outO, gT, gTs, gN, Y.e1, Y.e2, eC, aN, aC, eTup, lLst, eFrz, eMut, oMul, oSub, oAdd, oEq, oNe, oLt, oLe, oGt, oGe, oIs, oIsNot, isN, oDiv, oMod, uNeg, uNot, uRev, eqD, ofO, finP, Y.tB, Y.tT, Y.tAnd, Y.tOr, Y.tNot, Y.tYes, eAnd, eOr, eIf, eCh, truth, eB, lB, eIs, eCall, lCall, instD, bLen, bInt, seqOf, lstOf, ownL, oIx, ixD, dctOf, atI, ixN, bMin, bMax, intsOf, minI, maxI, bAll, bAny, bools, lComp, compL, iA, unset, ll, Y.oFld, Y.isO, Y.oIn, Y.oNotIn, Y.sRaise, List.lookup, List.zip, List.zipWith]

/-! ### roots -/
def sq (x : Int) : Int := (Float64.isqrt x.toNat : Nat)
theorem sq_spec {x : Int} (x0 : 0 ≤ x) : 0 ≤ sq x ∧ sq x * sq x ≤ x ∧ x < (sq x + 1) * (sq x + 1) := by
  have z := Float64.isqrt_spec x.toNat
  have e : ((x.toNat : Nat) : Int) = x := Int.toNat_of_nonneg x0
  refine ⟨Int.natCast_nonneg _, ?_, ?_⟩
  · have := z.1
    have q : ((Float64.isqrt x.toNat * Float64.isqrt x.toNat : Nat) : Int) ≤ (x.toNat : Nat) := by exact_mod_cast this
    rw [e] at q
    simpa [sq] using q
  · have := z.2
    have q : ((x.toNat : Nat) : Int) < (((Float64.isqrt x.toNat + 1) * (Float64.isqrt x.toNat + 1) : Nat) : Int) := by exact_mod_cast this
    rw [e] at q
    simpa [sq] using q
theorem x_ok (s : Gd n k l m) : 0 ≤ xOf k l m ∧ xOf k l m < 2000000 := by
  obtain ⟨k0, kn, l0, lk, m0, me, n1⟩ := s
  have a : 0 ≤ (l - m) * (l - m) := by
    rcases Int.le_total 0 (l - m) with z | z
    · exact Int.mul_nonneg z z
    · exact Int.mul_nonneg_of_nonpos_of_nonpos z z
  have b : (l - m) * (l - m) ≤ 1000 * 1000 := by
    rcases Int.le_total 0 (l - m) with z | z
    · exact Int.mul_le_mul (by omega) (by omega) z (by omega)
    · have := Int.mul_le_mul (a := -(l - m)) (b := -(l - m)) (c := 1000) (d := 1000) (by omega) (by omega) (by omega) (by omega)
      rwa [Int.neg_mul_neg] at this
  unfold xOf
  omega
def raysM (k l m : Int) : Option (Int × Int) := if sq (xOf k l m) * sq (xOf k l m) = xOf k l m ∧ (l - m + sq (xOf k l m)) % 2 = 0 then some ((l - m + sq (xOf k l m)) / 2, (l - m - sq (xOf k l m)) / 2) else none
def pairD : Option (Int × Int) → D
  | none => .non
  | some (a, b) => .tup [.int a, .int b]
theorem sq_lt {x : Int} (x0 : 0 ≤ x) (x1 : x < 4000000) : sq x < 2000 := by
  obtain ⟨a, b, c⟩ := sq_spec x0
  by_cases z : sq x < 2000
  · exact z
  · have := Int.mul_le_mul (a := 2000) (b := 2000) (c := sq x) (d := sq x) (by omega) (by omega) (by omega) a
    omega
end
section
variable {n k l m : Int} {h : Hm}
theorem sqrt_ok {x : Int} (x0 : 0 ≤ x) (x1 : x < big) : bSqrt h [.int x] = some (.int (sq x)) := by
  show (if 0 ≤ x ∧ x < big then some (D.int (Float64.isqrt x.toNat : Nat)) else none) = _
  rw [if_pos ⟨x0, x1⟩]
  rfl
theorem c0 (q x : Int) (sqr : d_square_of_difference [quad n k l m] h = .ok (.int x) h) (eq : bSqrt h [.int x] = some (.int q)) (a1 : mulOk q q = true) :
   b_rays_in [some (quad n k l m), none, none, none] h = b_rays_in_2 [some (quad n k l m), some (.int x), some (.int (l - m)), some (.int q)] h := by
  simp [b_rays_in, b_rays_in_1, sqr, fnP, fnK, startD, sSeq, sAsg, sPar, sRet, sRetN, sIf, sExpr, sPass, eV, Rs.out, Rs.bind, Rs.bindN, outO, gT, gTs, gN, Y.e1, Y.e2, eC, aN, aC, eTup, lLst, eFrz, eMut, oMul, oSub, oAdd, oEq, oNe, oLt, oLe, oGt, oGe, oIs, oIsNot, isN, oDiv, oMod, uNeg, uNot, uRev, eqD, ofO, finP, Y.tB, Y.tT, Y.tAnd, Y.tOr, Y.tNot, Y.tYes, eAnd, eOr, eIf, eCh, truth, eB, lB, eIs, eCall, lCall, instD, bLen, bInt, seqOf, lstOf, ownL, oIx, ixD, dctOf, atI, ixN, bMin, bMax, intsOf, minI, maxI, bAll, bAny, bools, lComp, compL, iA, unset, ll, Y.oFld, Y.isO, Y.oIn, Y.oNotIn, Y.sRaise, List.lookup, List.zip, List.zipWith, a1, eq]
theorem c1 (q x : Int) (a1 : mulOk q q = true) (c1 : q * q = x) (c2 : (l - m + q) % 2 = 0) :
   b_rays_in_2 [some (quad n k l m), some (.int x), some (.int (l - m)), some (.int q)] h = b_rays_in_3 [some (quad n k l m), some (.int x), some (.int (l - m)), some (.int q)] h := by
  simp [b_rays_in_2, fnP, fnK, startD, sSeq, sAsg, sPar, sRet, sRetN, sIf, sExpr, sPass, eV, Rs.out, Rs.bind, Rs.bindN, outO, gT, gTs, gN, Y.e1, Y.e2, eC, aN, aC, eTup, lLst, eFrz, eMut, oMul, oSub, oAdd, oEq, oNe, oLt, oLe, oGt, oGe, oIs, oIsNot, isN, oDiv, oMod, uNeg, uNot, uRev, eqD, ofO, finP, Y.tB, Y.tT, Y.tAnd, Y.tOr, Y.tNot, Y.tYes, eAnd, eOr, eIf, eCh, truth, eB, lB, eIs, eCall, lCall, instD, bLen, bInt, seqOf, lstOf, ownL, oIx, ixD, dctOf, atI, ixN, bMin, bMax, intsOf, minI, maxI, bAll, bAny, bools, lComp, compL, iA, unset, ll, Y.oFld, Y.isO, Y.oIn, Y.oNotIn, Y.sRaise, List.lookup, List.zip, List.zipWith, a1, c1, c2]
theorem c2 (q x : Int) :
   b_rays_in_3 [some (quad n k l m), some (.int x), some (.int (l - m)), some (.int q)] h = .rt (.tup [.int ((l-m+q)/2), .int ((l-m-q)/2)]) h := by
  simp [b_rays_in_3, fnP, fnK, startD, sSeq, sAsg, sPar, sRet, sRetN, sIf, sExpr, sPass, eV, Rs.out, Rs.bind, Rs.bindN, outO, gT, gTs, gN, Y.e1, Y.e2, eC, aN, aC, eTup, lLst, eFrz, eMut, oMul, oSub, oAdd, oEq, oNe, oLt, oLe, oGt, oGe, oIs, oIsNot, isN, oDiv, oMod, uNeg, uNot, uRev, eqD, ofO, finP, Y.tB, Y.tT, Y.tAnd, Y.tOr, Y.tNot, Y.tYes, eAnd, eOr, eIf, eCh, truth, eB, lB, eIs, eCall, lCall, instD, bLen, bInt, seqOf, lstOf, ownL, oIx, ixD, dctOf, atI, ixN, bMin, bMax, intsOf, minI, maxI, bAll, bAny, bools, lComp, compL, iA, unset, ll, Y.oFld, Y.isO, Y.oIn, Y.oNotIn, Y.sRaise, List.lookup, List.zip, List.zipWith]
theorem c4 (q x : Int) (a1 : mulOk q q = true) (c1 : ¬ (q * q = x ∧ (l - m + q) % 2 = 0)) :
   b_rays_in_2 [some (quad n k l m), some (.int x), some (.int (l - m)), some (.int q)] h = .rt .non h := by
  by_cases z : q * q = x
  · have z2 : ¬ (l - m + q) % 2 = 0 := fun y => c1 ⟨z, y⟩
    simp [b_rays_in_2, fnP, fnK, startD, sSeq, sAsg, sPar, sRet, sRetN, sIf, sExpr, sPass, eV, Rs.out, Rs.bind, Rs.bindN, outO, gT, gTs, gN, Y.e1, Y.e2, eC, aN, aC, eTup, lLst, eFrz, eMut, oMul, oSub, oAdd, oEq, oNe, oLt, oLe, oGt, oGe, oIs, oIsNot, isN, oDiv, oMod, uNeg, uNot, uRev, eqD, ofO, finP, Y.tB, Y.tT, Y.tAnd, Y.tOr, Y.tNot, Y.tYes, eAnd, eOr, eIf, eCh, truth, eB, lB, eIs, eCall, lCall, instD, bLen, bInt, seqOf, lstOf, ownL, oIx, ixD, dctOf, atI, ixN, bMin, bMax, intsOf, minI, maxI, bAll, bAny, bools, lComp, compL, iA, unset, ll, Y.oFld, Y.isO, Y.oIn, Y.oNotIn, Y.sRaise, List.lookup, List.zip, List.zipWith, a1, z, z2]
  · simp [b_rays_in_2, fnP, fnK, startD, sSeq, sAsg, sPar, sRet, sRetN, sIf, sExpr, sPass, eV, Rs.out, Rs.bind, Rs.bindN, outO, gT, gTs, gN, Y.e1, Y.e2, eC, aN, aC, eTup, lLst, eFrz, eMut, oMul, oSub, oAdd, oEq, oNe, oLt, oLe, oGt, oGe, oIs, oIsNot, isN, oDiv, oMod, uNeg, uNot, uRev, eqD, ofO, finP, Y.tB, Y.tT, Y.tAnd, Y.tOr, Y.tNot, Y.tYes, eAnd, eOr, eIf, eCh, truth, eB, lB, eIs, eCall, lCall, instD, bLen, bInt, seqOf, lstOf, ownL, oIx, ixD, dctOf, atI, ixN, bMin, bMax, intsOf, minI, maxI, bAll, bAny, bools, lComp, compL, iA, unset, ll, Y.oFld, Y.isO, Y.oIn, Y.oNotIn, Y.sRaise, List.lookup, List.zip, List.zipWith, a1, z]
theorem rays_in (s : Gd n k l m) : d_rays_in [quad n k l m] h = .ok (pairD (raysM k l m)) h := by
  have sx := x_ok s
  have s2 := sq_lt sx.1 (by omega)
  have s0 := (sq_spec sx.1).1
  have b1 : xOf k l m < big := by have := sx.2; unfold big; omega
  have eq := sqrt_ok (h := h) sx.1 b1
  have sqr := square (h := h) s
  have a1 : mulOk (sq (xOf k l m)) (sq (xOf k l m)) = true := mulOk_l (by omega) (by omega)
  have e0 := c0 _ _ sqr eq a1
  unfold raysM d_rays_in fnP
  have es : startD 4 [quad n k l m] = [some (quad n k l m), none, none, none] := rfl
  rw [es, e0]
  generalize sq (xOf k l m) = q at *
  generalize xOf k l m = x at *
  by_cases z : q * q = x ∧ (l - m + q) % 2 = 0
  · rw [c1 q x a1 z.1 z.2, c2, if_pos z]
    simp [finP, pairD]
  · rw [c4 q x a1 z, if_neg z]
    simp [finP, pairD]
theorem rays_ok (s : Gd n k l m) : d_other_rays [quad n k l m] h = .ok (pairD (raysM k l m)) h := by
  simp [d_other_rays, b_other_rays, b_other_rays_1, need s, rays_in s, fnP, fnK, startD, sSeq, sAsg, sPar, sRet, sRetN, sIf, sExpr, sPass, eV, Rs.out, Rs.bind, Rs.bindN, outO, gT, gTs, gN, Y.e1, Y.e2, eC, aN, aC, eTup, lLst, eFrz, eMut, oMul, oSub, oAdd, oEq, oNe, oLt, oLe, oGt, oGe, oIs, oIsNot, isN, oDiv, oMod, uNeg, uNot, uRev, eqD, ofO, finP, Y.tB, Y.tT, Y.tAnd, Y.tOr, Y.tNot, Y.tYes, eAnd, eOr, eIf, eCh, truth, eB, lB, eIs, eCall, lCall, instD, bLen, bInt, seqOf, lstOf, ownL, oIx, ixD, dctOf, atI, ixN, bMin, bMax, intsOf, minI, maxI, bAll, bAny, bools, lComp, compL, iA, unset, ll, Y.oFld, Y.isO, Y.oIn, Y.oNotIn, Y.sRaise, List.lookup, List.zip, List.zipWith]
/-! ### the law's root -/
end
section
variable {n k l m : Int} {h : Hm}
theorem rays_some {r t : Int} (s : Gd n k l m) (e : raysM k l m = some (r, t)) : 0 ≤ r - t ∧ r - t < 2000 ∧ r + t = l - m ∧ r * t = m - k := by
  have sx := x_ok s
  have s0 := (sq_spec sx.1).1
  have s2 := sq_lt sx.1 (by omega)
  unfold raysM at e
  generalize hq : sq (xOf k l m) = q at *
  split at e
  · rename_i c
    cases e
    have hx : xOf k l m = (l - m) * (l - m) + 4 * (k - m) := rfl
    have h1 : 2 * ((l - m + q) / 2) = l - m + q := by omega
    have h2 : 2 * ((l - m - q) / 2) = l - m - q := by omega
    refine ⟨by omega, by omega, by omega, ?_⟩
    have c1 := c.1
    rw [hx] at c1
    generalize (l - m + q) / 2 = r at *
    generalize (l - m - q) / 2 = t at *
    grind
  · cases e
def timesOf (n k l m : Int) : Option (Int × Int) → Option (Int × Int)
  | none => if (n - 1) % 2 = 0 ∧ 2 * k + (n - 1) * (l - m) = 0 then some ((n - 1) / 2, (n - 1) / 2) else none
  | some (r, t) => if r = t then none else if (-k - t * (n - 1)) % (r - t) = 0 ∧ 0 ≤ (-k - t * (n - 1)) / (r - t) ∧ (-k - t * (n - 1)) / (r - t) ≤ n - 1 then some ((-k - t * (n - 1)) / (r - t), n - 1 - (-k - t * (n - 1)) / (r - t)) else none
def timesM (n k l m : Int) : Option (Int × Int) := timesOf n k l m (raysM k l m)
theorem t0 (s : Gd n k l m) : b_times_in [some (quad n k l m), none, none, none, none, none, none, none, none, none, none] h = b_times_in_2 [some (quad n k l m), some (.int n), some (.int k), some (.int l), some (.int m), some (pairD (raysM k l m)), none, none, none, none, none] h := by
  simp [b_times_in, b_times_in_1, rays_in s, fnP, fnK, startD, sSeq, sAsg, sPar, sRet, sRetN, sIf, sExpr, sPass, eV, Rs.out, Rs.bind, Rs.bindN, outO, gT, gTs, gN, Y.e1, Y.e2, eC, aN, aC, eTup, lLst, eFrz, eMut, oMul, oSub, oAdd, oEq, oNe, oLt, oLe, oGt, oGe, oIs, oIsNot, isN, oDiv, oMod, uNeg, uNot, uRev, eqD, ofO, finP, Y.tB, Y.tT, Y.tAnd, Y.tOr, Y.tNot, Y.tYes, eAnd, eOr, eIf, eCh, truth, eB, lB, eIs, eCall, lCall, instD, bLen, bInt, seqOf, lstOf, ownL, oIx, ixD, dctOf, atI, ixN, bMin, bMax, intsOf, minI, maxI, bAll, bAny, bools, lComp, compL, iA, unset, ll, Y.oFld, Y.isO, Y.oIn, Y.oNotIn, Y.sRaise, List.lookup, List.zip, List.zipWith]
theorem t1 (s : Gd n k l m) : ∃ d, b_times_in_2 [some (quad n k l m), some (.int n), some (.int k), some (.int l), some (.int m), some (pairD none), none, none, none, none, none] h = .rt (pairD (timesOf n k l m none)) h ∧ d = () := by
  obtain ⟨k0, kn, l0, lk, m0, me, n1⟩ := s
  have a1 : mulOk 2 k = true := mulOk_l (by omega) (by omega)
  have a2 : mulOk (n - 1) (l - m) = true := mulOk_l (by omega) (by omega)
  refine ⟨(), ?_, rfl⟩
  unfold timesOf
  by_cases c1 : (n - 1) % 2 = 0
  · by_cases c2 : 2 * k + (n - 1) * (l - m) = 0
    · simp [b_times_in_2, pairD, fnP, fnK, startD, sSeq, sAsg, sPar, sRet, sRetN, sIf, sExpr, sPass, eV, Rs.out, Rs.bind, Rs.bindN, outO, gT, gTs, gN, Y.e1, Y.e2, eC, aN, aC, eTup, lLst, eFrz, eMut, oMul, oSub, oAdd, oEq, oNe, oLt, oLe, oGt, oGe, oIs, oIsNot, isN, oDiv, oMod, uNeg, uNot, uRev, eqD, ofO, finP, Y.tB, Y.tT, Y.tAnd, Y.tOr, Y.tNot, Y.tYes, eAnd, eOr, eIf, eCh, truth, eB, lB, eIs, eCall, lCall, instD, bLen, bInt, seqOf, lstOf, ownL, oIx, ixD, dctOf, atI, ixN, bMin, bMax, intsOf, minI, maxI, bAll, bAny, bools, lComp, compL, iA, unset, ll, Y.oFld, Y.isO, Y.oIn, Y.oNotIn, Y.sRaise, List.lookup, List.zip, List.zipWith, a1, a2, c1, c2]
    · simp [b_times_in_2, pairD, fnP, fnK, startD, sSeq, sAsg, sPar, sRet, sRetN, sIf, sExpr, sPass, eV, Rs.out, Rs.bind, Rs.bindN, outO, gT, gTs, gN, Y.e1, Y.e2, eC, aN, aC, eTup, lLst, eFrz, eMut, oMul, oSub, oAdd, oEq, oNe, oLt, oLe, oGt, oGe, oIs, oIsNot, isN, oDiv, oMod, uNeg, uNot, uRev, eqD, ofO, finP, Y.tB, Y.tT, Y.tAnd, Y.tOr, Y.tNot, Y.tYes, eAnd, eOr, eIf, eCh, truth, eB, lB, eIs, eCall, lCall, instD, bLen, bInt, seqOf, lstOf, ownL, oIx, ixD, dctOf, atI, ixN, bMin, bMax, intsOf, minI, maxI, bAll, bAny, bools, lComp, compL, iA, unset, ll, Y.oFld, Y.isO, Y.oIn, Y.oNotIn, Y.sRaise, List.lookup, List.zip, List.zipWith, a1, a2, c1, c2]
  · simp [b_times_in_2, pairD, fnP, fnK, startD, sSeq, sAsg, sPar, sRet, sRetN, sIf, sExpr, sPass, eV, Rs.out, Rs.bind, Rs.bindN, outO, gT, gTs, gN, Y.e1, Y.e2, eC, aN, aC, eTup, lLst, eFrz, eMut, oMul, oSub, oAdd, oEq, oNe, oLt, oLe, oGt, oGe, oIs, oIsNot, isN, oDiv, oMod, uNeg, uNot, uRev, eqD, ofO, finP, Y.tB, Y.tT, Y.tAnd, Y.tOr, Y.tNot, Y.tYes, eAnd, eOr, eIf, eCh, truth, eB, lB, eIs, eCall, lCall, instD, bLen, bInt, seqOf, lstOf, ownL, oIx, ixD, dctOf, atI, ixN, bMin, bMax, intsOf, minI, maxI, bAll, bAny, bools, lComp, compL, iA, unset, ll, Y.oFld, Y.isO, Y.oIn, Y.oNotIn, Y.sRaise, List.lookup, List.zip, List.zipWith, a1, a2, c1]
theorem t2 {r t : Int} (s : Gd n k l m) (hq : 0 ≤ r - t ∧ r - t < 2000) : b_times_in_2 [some (quad n k l m), some (.int n), some (.int k), some (.int l), some (.int m), some (pairD (some (r, t))), none, none, none, none, none] h = .rt (pairD (timesOf n k l m (some (r, t)))) h := by
  obtain ⟨k0, kn, l0, lk, m0, me, n1⟩ := s
  have a1 : mulOk t (n - 1) = true := mulOk_r (by omega) (by omega)
  unfold timesOf
  dsimp only
  have e3 : b_times_in_2 [some (quad n k l m), some (.int n), some (.int k), some (.int l), some (.int m), some (pairD (some (r, t))), none, none, none, none, none] h = b_times_in_5 [some (quad n k l m), some (.int n), some (.int k), some (.int l), some (.int m), some (pairD (some (r, t))), none, some (.int r), some (.int t), some (.int (-k - t * (n - 1))), none] h := by
    simp [b_times_in_2, b_times_in_3, b_times_in_4, pairD, fnP, fnK, startD, sSeq, sAsg, sPar, sRet, sRetN, sIf, sExpr, sPass, eV, Rs.out, Rs.bind, Rs.bindN, outO, gT, gTs, gN, Y.e1, Y.e2, eC, aN, aC, eTup, lLst, eFrz, eMut, oMul, oSub, oAdd, oEq, oNe, oLt, oLe, oGt, oGe, oIs, oIsNot, isN, oDiv, oMod, uNeg, uNot, uRev, eqD, ofO, finP, Y.tB, Y.tT, Y.tAnd, Y.tOr, Y.tNot, Y.tYes, eAnd, eOr, eIf, eCh, truth, eB, lB, eIs, eCall, lCall, instD, bLen, bInt, seqOf, lstOf, ownL, oIx, ixD, dctOf, atI, ixN, bMin, bMax, intsOf, minI, maxI, bAll, bAny, bools, lComp, compL, iA, unset, ll, Y.oFld, Y.isO, Y.oIn, Y.oNotIn, Y.sRaise, List.lookup, List.zip, List.zipWith, a1]
  rw [e3]
  generalize -k - t * (n - 1) = top at *
  by_cases c : r = t
  · simp [b_times_in_5, pairD, fnP, fnK, startD, sSeq, sAsg, sPar, sRet, sRetN, sIf, sExpr, sPass, eV, Rs.out, Rs.bind, Rs.bindN, outO, gT, gTs, gN, Y.e1, Y.e2, eC, aN, aC, eTup, lLst, eFrz, eMut, oMul, oSub, oAdd, oEq, oNe, oLt, oLe, oGt, oGe, oIs, oIsNot, isN, oDiv, oMod, uNeg, uNot, uRev, eqD, ofO, finP, Y.tB, Y.tT, Y.tAnd, Y.tOr, Y.tNot, Y.tYes, eAnd, eOr, eIf, eCh, truth, eB, lB, eIs, eCall, lCall, instD, bLen, bInt, seqOf, lstOf, ownL, oIx, ixD, dctOf, atI, ixN, bMin, bMax, intsOf, minI, maxI, bAll, bAny, bools, lComp, compL, iA, unset, ll, Y.oFld, Y.isO, Y.oIn, Y.oNotIn, Y.sRaise, List.lookup, List.zip, List.zipWith, c]
  · have c0 : 0 < r - t := by omega
    have c00 : t < r := by omega
    have c1 : r - t < 1073741824 := by omega
    rw [if_neg c]
    by_cases d1 : top % (r - t) = 0
    · by_cases d2 : 0 ≤ top / (r - t)
      · by_cases d3 : top / (r - t) ≤ n - 1
        · simp [b_times_in_5, b_times_in_6, b_times_in_7, pairD, fnP, fnK, startD, sSeq, sAsg, sPar, sRet, sRetN, sIf, sExpr, sPass, eV, Rs.out, Rs.bind, Rs.bindN, outO, gT, gTs, gN, Y.e1, Y.e2, eC, aN, aC, eTup, lLst, eFrz, eMut, oMul, oSub, oAdd, oEq, oNe, oLt, oLe, oGt, oGe, oIs, oIsNot, isN, oDiv, oMod, uNeg, uNot, uRev, eqD, ofO, finP, Y.tB, Y.tT, Y.tAnd, Y.tOr, Y.tNot, Y.tYes, eAnd, eOr, eIf, eCh, truth, eB, lB, eIs, eCall, lCall, instD, bLen, bInt, seqOf, lstOf, ownL, oIx, ixD, dctOf, atI, ixN, bMin, bMax, intsOf, minI, maxI, bAll, bAny, bools, lComp, compL, iA, unset, ll, Y.oFld, Y.isO, Y.oIn, Y.oNotIn, Y.sRaise, List.lookup, List.zip, List.zipWith, c, c0, c00, c1, d1, d2, d3]
        · simp [b_times_in_5, b_times_in_6, b_times_in_7, pairD, fnP, fnK, startD, sSeq, sAsg, sPar, sRet, sRetN, sIf, sExpr, sPass, eV, Rs.out, Rs.bind, Rs.bindN, outO, gT, gTs, gN, Y.e1, Y.e2, eC, aN, aC, eTup, lLst, eFrz, eMut, oMul, oSub, oAdd, oEq, oNe, oLt, oLe, oGt, oGe, oIs, oIsNot, isN, oDiv, oMod, uNeg, uNot, uRev, eqD, ofO, finP, Y.tB, Y.tT, Y.tAnd, Y.tOr, Y.tNot, Y.tYes, eAnd, eOr, eIf, eCh, truth, eB, lB, eIs, eCall, lCall, instD, bLen, bInt, seqOf, lstOf, ownL, oIx, ixD, dctOf, atI, ixN, bMin, bMax, intsOf, minI, maxI, bAll, bAny, bools, lComp, compL, iA, unset, ll, Y.oFld, Y.isO, Y.oIn, Y.oNotIn, Y.sRaise, List.lookup, List.zip, List.zipWith, c, c0, c00, c1, d1, d2, d3]
      · simp [b_times_in_5, b_times_in_6, b_times_in_7, pairD, fnP, fnK, startD, sSeq, sAsg, sPar, sRet, sRetN, sIf, sExpr, sPass, eV, Rs.out, Rs.bind, Rs.bindN, outO, gT, gTs, gN, Y.e1, Y.e2, eC, aN, aC, eTup, lLst, eFrz, eMut, oMul, oSub, oAdd, oEq, oNe, oLt, oLe, oGt, oGe, oIs, oIsNot, isN, oDiv, oMod, uNeg, uNot, uRev, eqD, ofO, finP, Y.tB, Y.tT, Y.tAnd, Y.tOr, Y.tNot, Y.tYes, eAnd, eOr, eIf, eCh, truth, eB, lB, eIs, eCall, lCall, instD, bLen, bInt, seqOf, lstOf, ownL, oIx, ixD, dctOf, atI, ixN, bMin, bMax, intsOf, minI, maxI, bAll, bAny, bools, lComp, compL, iA, unset, ll, Y.oFld, Y.isO, Y.oIn, Y.oNotIn, Y.sRaise, List.lookup, List.zip, List.zipWith, c, c0, c00, c1, d1, d2]
    · simp [b_times_in_5, pairD, fnP, fnK, startD, sSeq, sAsg, sPar, sRet, sRetN, sIf, sExpr, sPass, eV, Rs.out, Rs.bind, Rs.bindN, outO, gT, gTs, gN, Y.e1, Y.e2, eC, aN, aC, eTup, lLst, eFrz, eMut, oMul, oSub, oAdd, oEq, oNe, oLt, oLe, oGt, oGe, oIs, oIsNot, isN, oDiv, oMod, uNeg, uNot, uRev, eqD, ofO, finP, Y.tB, Y.tT, Y.tAnd, Y.tOr, Y.tNot, Y.tYes, eAnd, eOr, eIf, eCh, truth, eB, lB, eIs, eCall, lCall, instD, bLen, bInt, seqOf, lstOf, ownL, oIx, ixD, dctOf, atI, ixN, bMin, bMax, intsOf, minI, maxI, bAll, bAny, bools, lComp, compL, iA, unset, ll, Y.oFld, Y.isO, Y.oIn, Y.oNotIn, Y.sRaise, List.lookup, List.zip, List.zipWith, c, c0, c00, c1, d1]
theorem times_in (s : Gd n k l m) : d_times_in [quad n k l m] h = .ok (pairD (timesM n k l m)) h := by
  unfold d_times_in fnP
  rw [show startD 11 [quad n k l m] = [some (quad n k l m), none, none, none, none, none, none, none, none, none, none] from rfl, t0 s]
  unfold timesM
  cases e : raysM k l m with
  | none =>
    obtain ⟨_, q, _⟩ := t1 (h := h) s
    rw [q]
    simp [finP]
  | some p =>
    obtain ⟨r, t⟩ := p
    have z := rays_some s e
    rw [t2 s ⟨z.1, z.2.1⟩]
    simp [finP]
theorem times_ok (s : Gd n k l m) (hb : k * (k - l - 1) = (n - k - 1) * m) : d_ray_times [quad n k l m] h = .ok (pairD (timesM n k l m)) h := by
  simp [d_ray_times, b_ray_times, b_ray_times_2, b_ray_times_1, need s, bal s, times_in s, hb, fnP, fnK, startD, sSeq, sAsg, sPar, sRet, sRetN, sIf, sExpr, sPass, eV, Rs.out, Rs.bind, Rs.bindN, outO, gT, gTs, gN, Y.e1, Y.e2, eC, aN, aC, eTup, lLst, eFrz, eMut, oMul, oSub, oAdd, oEq, oNe, oLt, oLe, oGt, oGe, oIs, oIsNot, isN, oDiv, oMod, uNeg, uNot, uRev, eqD, ofO, finP, Y.tB, Y.tT, Y.tAnd, Y.tOr, Y.tNot, Y.tYes, eAnd, eOr, eIf, eCh, truth, eB, lB, eIs, eCall, lCall, instD, bLen, bInt, seqOf, lstOf, ownL, oIx, ixD, dctOf, atI, ixN, bMin, bMax, intsOf, minI, maxI, bAll, bAny, bools, lComp, compL, iA, unset, ll, Y.oFld, Y.isO, Y.oIn, Y.oNotIn, Y.sRaise, List.lookup, List.zip, List.zipWith]
def mn4 (a b c d : Int) : Int := min (min (min a b) c) d
theorem min4 {a b c d : Int} : bMin h [quad a b c d] = some (.int (mn4 a b c d)) := by
  simp [bMin, intsOf, minI, mn4]
theorem turn (s : Gd n k l m) (c : 0 ≤ mn4 n (n - k - 1) (n - 2 * k + m - 2) (n - 2 * k + l)) : d_turned_numbers [quad n k l m] h = .ok (quad n (n - k - 1) (n - 2 * k + m - 2) (n - 2 * k + l)) h := by
  have c2' : ¬ mn4 n (n - k - 1) (n - 2 * k + m - 2) (n - 2 * k + l) < 0 := by omega
  simp [d_turned_numbers, b_turned_numbers, b_turned_numbers_3, b_turned_numbers_2, b_turned_numbers_1, need s, turned s, min4, c2', fnP, fnK, startD, sSeq, sAsg, sPar, sRet, sRetN, sIf, sExpr, sPass, eV, Rs.out, Rs.bind, Rs.bindN, outO, gT, gTs, gN, Y.e1, Y.e2, eC, aN, aC, eTup, lLst, eFrz, eMut, oMul, oSub, oAdd, oEq, oNe, oLt, oLe, oGt, oGe, oIs, oIsNot, isN, oDiv, oMod, uNeg, uNot, uRev, eqD, ofO, finP, Y.tB, Y.tT, Y.tAnd, Y.tOr, Y.tNot, Y.tYes, eAnd, eOr, eIf, eCh, truth, eB, lB, eIs, eCall, lCall, instD, bLen, bInt, seqOf, lstOf, ownL, oIx, ixD, dctOf, atI, ixN, bMax, maxI, bAll, bAny, bools, lComp, compL, iA, unset, ll, Y.oFld, Y.isO, Y.oIn, Y.oNotIn, Y.sRaise, List.lookup, List.zip, List.zipWith]
theorem turn_no (s : Gd n k l m) (c : mn4 n (n - k - 1) (n - 2 * k + m - 2) (n - 2 * k + l) < 0) : d_turned_numbers [quad n k l m] h = .ex ⟨"NotKept", [("witness", quad n (n - k - 1) (n - 2 * k + m - 2) (n - 2 * k + l)), ("promise", .str "numbers")]⟩ h := by
  simp [d_turned_numbers, b_turned_numbers, b_turned_numbers_3, b_turned_numbers_2, b_turned_numbers_1, need s, turned s, min4, c, fnP, fnK, startD, sSeq, sAsg, sPar, sRet, sRetN, sIf, sExpr, sPass, eV, Rs.out, Rs.bind, Rs.bindN, outO, gT, gTs, gN, Y.e1, Y.e2, eC, aN, aC, eTup, lLst, eFrz, eMut, oMul, oSub, oAdd, oEq, oNe, oLt, oLe, oGt, oGe, oIs, oIsNot, isN, oDiv, oMod, uNeg, uNot, uRev, eqD, ofO, finP, Y.tB, Y.tT, Y.tAnd, Y.tOr, Y.tNot, Y.tYes, eAnd, eOr, eIf, eCh, truth, eB, lB, eIs, eCall, lCall, instD, bLen, bInt, seqOf, lstOf, ownL, oIx, ixD, dctOf, atI, ixN, bMax, maxI, bAll, bAny, bools, lComp, compL, iA, unset, ll, Y.oFld, Y.isO, Y.oIn, Y.oNotIn, Y.sRaise, List.lookup, List.zip, List.zipWith]
theorem times_no (s : Gd n k l m) (hb : ¬ k * (k - l - 1) = (n - k - 1) * m) : d_ray_times [quad n k l m] h = .ex ⟨"NotKept", [("witness", .non), ("promise", .str "balanced")]⟩ h := by
  simp [d_ray_times, b_ray_times, b_ray_times_2, b_ray_times_1, need s, bal s, hb, fnP, fnK, startD, sSeq, sAsg, sPar, sRet, sRetN, sIf, sExpr, sPass, eV, Rs.out, Rs.bind, Rs.bindN, outO, gT, gTs, gN, Y.e1, Y.e2, eC, aN, aC, eTup, lLst, eFrz, eMut, oMul, oSub, oAdd, oEq, oNe, oLt, oLe, oGt, oGe, oIs, oIsNot, isN, oDiv, oMod, uNeg, uNot, uRev, eqD, ofO, finP, Y.tB, Y.tT, Y.tAnd, Y.tOr, Y.tNot, Y.tYes, eAnd, eOr, eIf, eCh, truth, eB, lB, eIs, eCall, lCall, instD, bLen, bInt, seqOf, lstOf, ownL, oIx, ixD, dctOf, atI, ixN, bMin, bMax, intsOf, minI, maxI, bAll, bAny, bools, lComp, compL, iA, unset, ll, Y.oFld, Y.isO, Y.oIn, Y.oNotIn, Y.sRaise, List.lookup, List.zip, List.zipWith]
theorem b60 {a : Int} (h1 : -1000000 < a) (h2 : a < 1000000) : a.natAbs < 10 ^ 60 := Nat.lt_of_lt_of_le (show a.natAbs < 1000000 by omega) (by decide)
theorem wid_int {a : Int} (h1 : -1000000 < a) (h2 : a < 1000000) : wid (.int a) = 61 := by
  unfold wid; rw [if_pos (b60 h1 h2)]
theorem repr_quad2 {s : Str} (hs : (reprText s).length ≤ 100) (ho : PyData.strOk s = true) {a b c d : Int} (h1 : -1000000 < a ∧ a < 1000000 ∧ -1000000 < b ∧ b < 1000000) (h2 : -1000000 < c ∧ c < 1000000 ∧ -1000000 < d ∧ d < 1000000) : ∃ x : Str, bRepr h [.tup [.str s, quad a b c d]] = some (.str x) := by
  refine ⟨_, by
    have l : wid (.tuple [.str s, .tuple [.int a, .int b, .int c, .int d]]) ≤ line := by
      simp [wid, widL, b60 h1.1 h1.2.1, b60 h1.2.2.1 h1.2.2.2, b60 h2.1 h2.2.1, b60 h2.2.2.1 h2.2.2.2]
      exact Nat.le_trans (by omega) (show (10000 : Nat) ≤ line by decide)
    simp [bRepr, py, pyL, SeqAt.shaped, PyData.canLay0, PyData.canLayAll0, PyData.depth, PyData.depthAll, l, ho]; rfl⟩
end
end Pq
end

section
set_option Elab.async false
set_option linter.all false
set_option maxRecDepth 100000
set_option maxHeartbeats 1000000
/-! X1: things in a drawn order. -/
namespace L25
open PySem Y L2
theorem dr : Draws d_u_law_draw := fun hp _ m0 m1 => draw 84421 2147482873 9341 107 17 256 (by decide) hp m0 m1
section
variable {o x y : Ob} {t : Hm} {N n : Nat}
theorem tg1 : (t ++ [x, y])[t.length]? = some x := by simp
theorem tg2 : (t ++ [x, y])[t.length + 1]? = some y := by
  rw [List.getElem?_append_right (by omega)]; simp
theorem ts1 {z : Ob} : (t ++ [x, y]).set t.length z = t ++ [z, y] := by simp
theorem ts2 {z : Ob} : (t ++ [x, y]).set (t.length + 1) z = t ++ [x, z] := by
  rw [List.set_append_right _ _ (by omega)]; simp
theorem finL_at {t l : Hm} {o o' : Ob} {k : Nat} {ds : List D} (hk : (t ++ l)[k]? = some (.lst ds)) (h1 : t.length ≤ k) (hd : D.lowL (t.length + 1) ds = true) (ho : Ob.low (t.length + 1) o' = true) : finL (o :: t) (.rt (.loc (k + 1)) (o' :: (t ++ l))) = .ok ds (o' :: t) := by
  have e : (o' :: (t ++ l)).take (t.length + 1) = o' :: t := by rw [List.take_succ_cons, List.take_left' rfl]
  unfold finL
  simp only [List.getElem?_cons_succ, hk, List.length_cons, hd, Pg.seal_pen ho, e, Bool.and_self, Bool.true_and, h1, Nat.add_le_add_iff_right, decide_true, if_true]
abbrev mS (t : Hm) (xs : List D) (s4 : Option D) : Sl := [some (.loc 0), some (.fl xs), some (.loc (t.length + 1)), some (.loc (t.length + 2)), s4]
theorem erase_perm {α : Type} : ∀ (l : List α) (i : Nat) (x : α), l[i]? = some x → (x :: l.eraseIdx i).Perm l
  | [], i, x, e => by simp at e
  | a :: l, 0, x, e => by simp at e; subst e; exact .refl _
  | a :: l, i + 1, x, e => by
    simp only [List.getElem?_cons_succ] at e
    simp only [List.eraseIdx_cons_succ]
    exact (List.Perm.swap a x _).trans ((erase_perm l i x e).cons a)
theorem mixed_lap {xs rest found : List D} {s4 : Option D} (h0 : 0 < rest.length) (h1 : rest.length < 100000) (h2 : found.length < 100000) (hp : PenAt [o] 0 (N + 1)) : ∃ rest' found' o', b_u_law_mixed_l1 (mS t xs s4) (o :: (t ++ [.lst rest, .lst found])) = .nx (mS t xs s4) (o' :: (t ++ [.lst rest', .lst found'])) ∧
    (found' ++ rest').Perm (found ++ rest) ∧ rest'.length + 1 = rest.length ∧ found'.length = found.length + 1 ∧ PenAt [o'] 0 N := by
  obtain ⟨r, o', e1, r0, r1, hq⟩ := Pg.drawT (t := t ++ [.lst rest, .lst found]) dr hp (many := rest.length) (by omega) (by omega)
  have lt : r.toNat < rest.length := by omega
  have g := List.getElem?_eq_getElem lt
  refine ⟨rest.eraseIdx r.toNat, found ++ [rest[r.toNat]], o', ?_, ?_, by rw [List.length_eraseIdx]; simp [lt]; omega, by simp, hq⟩
  · have l1 : found.length < line := Nat.lt_of_lt_of_le h2 (by decide)
    have r2 : r < 16777216 := by omega
    simp only [b_u_law_mixed_l1, sApp, eV, ePop, eCall, aC, aN, eB, Rs.bind, Rs.out, ofO, isLst, List.getElem?_cons_zero, List.getElem?_cons_succ, bLen, seqOf, lstOf, tg1, tg2, if_true, Option.map_some, e1, popD, r0, r2, g, List.set_cons_succ, ts1, appD, l1, ts2, and_self]
  · rw [List.append_assoc, List.singleton_append]
    exact (erase_perm rest _ _ g).append_left found
theorem mixed_loop {xs : List D} : ∀ (ds : List D) (rest found : List D) (o : Ob) (s4 : Option D), rest.length = ds.length → rest.length + found.length < 100000 → PenAt [o] 0 (N + ds.length) →
    ∃ found' o' s4', forL (gN 4) b_u_law_mixed_l1 ds (mS t xs s4) (o :: (t ++ [.lst rest, .lst found])) = .nx (mS t xs s4') (o' :: (t ++ [.lst [], .lst found'])) ∧ found'.Perm (found ++ rest) ∧ PenAt [o'] 0 N
  | [], rest, found, o, s4, e, _, hp => by
    have : rest = [] := List.length_eq_zero_iff.mp (by simpa using e)
    subst this
    exact ⟨found, o, s4, rfl, by simp, by simpa using hp⟩
  | d :: ds, rest, found, o, s4, e, hl, hp => by
    simp only [List.length_cons] at e hp
    obtain ⟨r', f', o1, e1, p1, l1, l2, h1⟩ := mixed_lap (t := t) (xs := xs) (s4 := some d) (found := found) (rest := rest) (N := N + ds.length) (by omega) (by omega) (by omega) (hp.mono (by omega))
    obtain ⟨f2, o2, s4', e2, p2, h2⟩ := mixed_loop (xs := xs) ds r' f' o1 (some d) (by omega) (by omega) h1
    exact ⟨f2, o2, s4', by simp only [forL, gN, List.set_cons_succ, List.set_cons_zero, e1, e2], p2.trans p1, h2⟩
theorem low_perm {n : Nat} {xs ys : List D} (p : xs.Perm ys) (h : D.lowL n ys = true) : D.lowL n xs = true := by
  induction p with
  | nil => rfl
  | cons x _ ih => simp only [D.lowL, Bool.and_eq_true] at h ⊢; exact ⟨h.1, ih h.2⟩
  | swap x y l => simp only [D.lowL, Bool.and_eq_true] at h ⊢; exact ⟨h.2.1, h.1, h.2.2⟩
  | trans _ _ h1 h2 => exact h1 (h2 h)
theorem range_len (n : Nat) (i : Int) : (rangeD i n).length = n := by
  induction n generalizing i with
  | zero => rfl
  | succ n ih => simp [rangeD, ih]
theorem mixed {xs : List D} (hl : xs.length < 1000) (hx : D.lowL (t.length + 1) xs = true) (hp : PenAt [o] 0 (N + xs.length)) : ∃ ys o', d_u_law_mixed [.loc 0, .fl xs] (o :: t) = .ok ys (o' :: t) ∧ ys.Perm xs ∧ PenAt [o'] 0 N := by
  obtain ⟨ys, o', s4', e, p, h⟩ := mixed_loop (t := t) (xs := xs) (N := N) (rangeD 0 xs.length) xs [] o none (by rw [range_len]) (by simp; omega) (by rw [range_len]; exact hp)
  refine ⟨ys, o', ?_, by simpa using p, h⟩
  have i1 : iR1 (aC (eB bLen (aC (eV 1) (aN))) (aN)) (mS t xs none) (o :: (t ++ [.lst xs, .lst []])) = .ok (rangeD 0 xs.length) (o :: (t ++ [.lst xs, .lst []])) := by
    have s1 : small (xs.length : Int) = true := Pg.small_nat (by omega)
    simp [iR1, aC, aN, eB, eV, bLen, seqOf, lstOf, ofO, Rs.bind, s1]
  have k0 : b_u_law_mixed (startD 5 [.loc 0, .fl xs]) (o :: t) = b_u_law_mixed_1 (mS t xs none) (o :: (t ++ [.lst xs, .lst []])) := by
    have a1 : aC (eMut (lB mList (aC (eV 1) (aN)))) (aC (eMut (lLst (aN))) aN) (startD 5 [.loc 0, .fl xs]) (o :: t) = .ok [.loc (t.length + 1), .loc (t.length + 2)] (o :: (t ++ [.lst xs, .lst []])) := by
      simp [aC, aN, eMut, lB, mList, lLst, eV, startD, seqOf, lstOf, ofO, Rs.bind, Y.ll]
    simp only [b_u_law_mixed, sSeq, sPar, a1, Rs.out]
    rfl
  have k1 : b_u_law_mixed_1 (mS t xs none) (o :: (t ++ [.lst xs, .lst []])) = .rt (.loc (t.length + 1 + 1)) (o' :: (t ++ [.lst [], .lst ys])) := by
    unfold b_u_law_mixed_1 sSeq sFor
    rw [i1]
    simp only [Rs.out, e, b_u_law_mixed_2, sRet, eV, List.getElem?_cons_zero, List.getElem?_cons_succ]
  unfold d_u_law_mixed fnL
  rw [k0, k1]
  exact finL_at tg2 (by omega) (low_perm (by simpa using p) hx) (Pg.pen_lw h _)
end
end L25
end

section
set_option Elab.async false
set_option linter.all false
set_option maxRecDepth 100000
set_option maxHeartbeats 1000000
/-! X2: the law's own rows. -/
namespace L25
open PySem Y L2
open Pg (lots locs step nb adj nearOf row comm cmn deg pairsOf wrongOf unevenD small_nat lots_get app_get push step_len row_of row_sort lots_new comp_new mem_pairs)
def rowF (r : List Nat) : D := .fl (r.map nD)
def nearF (n : Nat) (ts : List (Nat × Nat)) : D := .fl ((nearOf n ts).map rowF)
theorem near_loopG {h : Hm} {n : Nat} {s0 s1 s5 : Option D} {G : Hm → Bool} (hG : ∀ rows, G (h ++ lots rows) = true) : ∀ (ts : List (Nat × Nat)) (rows : List (List Nat)) (a b : Option D), rows.length = n → (∀ t ∈ ts, t.1 < n ∧ t.2 < n) → (∀ r ∈ rows, r.length + 2 * ts.length < 1000000) →
    ∃ a' b', forG G (gT [gN 3, gN 4]) b_u_law_near_l1 (ts.map tD) [s0, s1, some (.fl (locs h.length n)), a, b, s5] (h ++ lots rows) = .nx [s0, s1, some (.fl (locs h.length n)), a', b', s5] (h ++ lots (ts.foldl step rows))
  | [], rows, a, b, _, _, _ => ⟨a, b, by simp [forG, hG]⟩
  | t :: ts, rows, a, b, hl, ht, hr => by
    obtain ⟨l1, l2⟩ := ht t List.mem_cons_self
    have sm : ∀ r ∈ step rows t, r.length + 2 * ts.length < 1000000 := by
      intro r hm
      obtain ⟨j, hj⟩ := List.getElem?_of_mem hm
      simp only [Pg.step, List.getElem?_modify] at hj
      cases e : rows[j]? with
      | none => simp [e] at hj
      | some r0 =>
        have := hr r0 (List.mem_of_getElem? e)
        simp only [List.length_cons] at this
        simp only [e] at hj
        by_cases c1 : t.1 = j <;> by_cases c2 : t.2 = j <;> simp [c1, c2] at hj <;> subst hj <;> simp <;> omega
    obtain ⟨a', b', ih⟩ := near_loopG (h := h) (s0 := s0) (s1 := s1) (s5 := s5) hG ts (step rows t) (some (nD t.1)) (some (nD t.2)) (by rw [step_len, hl]) (fun t m => ht t (List.mem_cons_of_mem _ m)) sm
    refine ⟨a', b', ?_⟩
    rw [List.foldl_cons, ← ih]
    have p1 := push (h := h) (rows := rows) (n := n) (p := t.1) (x := t.2) (i := 2) (σ := [s0, s1, some (.fl (locs h.length n)), some (nD t.1), some (nD t.2), s5]) (fp := eV 3) (fx := eV 4) rfl (fun _ => rfl) (fun _ => rfl) hl l1 (fun r m => by have := hr r m; omega)
    have p2 := push (h := h) (rows := rows.modify t.1 (· ++ [t.2])) (n := n) (p := t.2) (x := t.1) (i := 2) (σ := [s0, s1, some (.fl (locs h.length n)), some (nD t.1), some (nD t.2), s5]) (fp := eV 4) (fx := eV 3) rfl (fun _ => rfl) (fun _ => rfl) (by simp [hl]) l2 (fun r hm => by
      obtain ⟨j, hj⟩ := List.getElem?_of_mem hm
      simp only [List.getElem?_modify] at hj
      cases e : rows[j]? with
      | none => simp [e] at hj
      | some r0 =>
        have := hr r0 (List.mem_of_getElem? e)
        simp only [List.length_cons] at this
        simp only [e] at hj
        by_cases c1 : t.1 = j <;> simp [c1] at hj <;> subst hj <;> simp <;> omega)
    have g0 : gT [gN 3, gN 4] (tD t) [s0, s1, some (.fl (locs h.length n)), a, b, s5] = some [s0, s1, some (.fl (locs h.length n)), some (nD t.1), some (nD t.2), s5] := by simp [gT, gTs, gN, tD]
    simp only [List.map_cons, forG, hG, if_true, g0, b_u_law_near_l1, b_u_law_near_l1_1, sSeq, p1, p2]
    rfl
theorem low_rowF (n : Nat) : ∀ r : List (List Nat), D.lowL n (r.map rowF) = true
  | [] => rfl
  | r :: rs => by simp [D.lowL, D.low, rowF, Y.low_ints, low_rowF n rs]
/-- the ties, as the law holds them -/
def Held (h : Hm) (d : D) (ts : List (Nat × Nat)) : Prop := d = .fl (ts.map tD) ∨ ∃ k, d = .loc k ∧ h[k]? = some (.lst (ts.map tD))
theorem law_near {n : Nat} {ts : List (Nat × Nat)} (h : Hm) {d : D} (hd : Held h d ts) (nd : ts.Nodup) (ht : ∀ t ∈ ts, t.1 < t.2 ∧ t.2 < n) (hn : n < 1000) (hl : ts.length < 100000) : d_u_law_near [nD n, d] h = .ok (nearF n ts) h := by
  have s1 : small (n : Int) = true := small_nat (by omega)
  have s2 : (n ≤ line) = True := Y.ll n (by omega)
  obtain ⟨s, hs, hG⟩ : ∃ s : Option Nat, (∀ rows, iX (eV 1) [some (nD n), some d, some (.fl (locs h.length n)), none, none, none] (h ++ lots rows) = .ok (s, ts.map tD) (h ++ lots rows)) ∧ ∀ rows, gd s (ts.map tD) (h ++ lots rows) = true := by
    rcases hd with rfl | ⟨k, rfl, hk⟩
    · exact ⟨none, fun rows => by simp [iX, eV, Rs.bind], fun _ => rfl⟩
    · have lt : k < h.length := (List.getElem?_eq_some_iff.mp hk).1
      have e : ∀ rows, (h ++ lots rows)[k]? = some (.lst (ts.map tD)) := fun rows => by rw [List.getElem?_append_left lt, hk]
      exact ⟨some k, fun rows => by simp [iX, eV, Rs.bind, e], fun rows => by simp [gd, e]⟩
  obtain ⟨a', b', e1⟩ := near_loopG (h := h) (n := n) (s0 := some (nD n)) (s1 := some d) (s5 := none) hG ts (List.replicate n []) none none (by simp) (fun t m => ⟨by have := ht t m; omega, (ht t m).2⟩) (fun r m => by
    have : r = [] := (List.mem_replicate.mp m).2
    subst this
    simp; omega)
  have e2 : compL (gN 5) Y.tYes (eFrz (lB mSortA (aC (eV 5) (aN)))) [some (nD n), some d, some (.fl (locs h.length n)), a', b', none] (locs h.length n) (h ++ lots (ts.foldl step (List.replicate n []))) =
      .ok ((List.range n).map fun p => rowF ((List.range n).filter (adj ts p))) (h ++ lots (ts.foldl step (List.replicate n []))) := by
    refine Y.compL_m (fun i => .loc (h.length + i)) _ _ fun p hp => ⟨_, rfl, ?_⟩
    have lt := List.mem_range.mp hp
    have er := row_of p ts (List.replicate n []) [] (by simp [lt])
    rw [List.nil_append] at er
    have eg : (h ++ lots (ts.foldl step (List.replicate n [])))[h.length + p]? = some (.lst ((ts.flatMap (nb p)).map nD)) := by rw [app_get, lots_get er]
    simp [lB, eFrz, aC, aN, eV, Rs.bind, mSortA, mSorted, keysD, dtuOf, lstOf, eg, sortD, ints_nD, row_sort nd ht, ofO, rowF, nD]
  have e3 : D.low h.length (nearF n ts) = true := by simp [nearF, D.low, low_rowF]
  have e4 := comp_new [some (nD n), some d, none, none, none, none] 3 (rangeD 0 n) h
  have e5 : (rangeD 0 n).length = n := by simp [rangeD]
  rw [e5, lots_new] at e4
  have e6 : iA (eV 2) [some (nD n), some d, some (.fl (locs h.length n)), a', b', none] (h ++ lots (ts.foldl step (List.replicate n []))) = .ok (locs h.length n) (h ++ lots (ts.foldl step (List.replicate n []))) := by simp [iA, eV, Rs.bind, seqOf, lstOf, ofO]
  have c1 : lComp (iR1 (aC (eV 0) (aN))) (gN 3) Y.tYes (eMut (lLst (aN))) [3] [some (nD n), some d, none, none, none, none] h = .ok (locs h.length n) (h ++ lots (List.replicate n [])) := by
    have l1 : (locs h.length n).length = n := by simp [locs]
    have e0 : iR1 (aC (eV 0) (aN)) [some (nD n), some d, none, none, none, none] h = .ok (rangeD 0 n) h := by simp [iR1, aC, aN, eV, Rs.bind, nD, s1]
    simp only [lComp, e0, Rs.bind, unset, List.set_cons_succ, List.set_cons_zero, e4, l1, s2, if_true]
  have c2 : lComp (iA (eV 2)) (gN 5) Y.tYes (eFrz (lB mSortA (aC (eV 5) (aN)))) [5] [some (nD n), some d, some (.fl (locs h.length n)), a', b', none] (h ++ lots (ts.foldl step (List.replicate n []))) =
      .ok ((nearOf n ts).map rowF) (h ++ lots (ts.foldl step (List.replicate n []))) := by
    have l1 : ((List.range n).map fun p => rowF ((List.range n).filter (adj ts p))).length = n := by simp
    simp only [lComp, e6, Rs.bind, unset, List.set_cons_succ, List.set_cons_zero, e2, l1, s2, if_true]
    simp [nearOf]
  simp only [d_u_law_near, b_u_law_near, b_u_law_near_1, b_u_law_near_2, fnP, startD, List.map_cons, List.map_nil, List.length_cons, List.length_nil, List.cons_append, List.nil_append, List.replicate, sSeq, sAsg, sForX, sRet, c1, Rs.bind, Rs.out, outO, gN, List.set_cons_succ, List.set_cons_zero, hs, e1]
  rw [eFrz, c1]
  simp only [Rs.bind, Rs.out, outO, gN, List.set_cons_succ, List.set_cons_zero, hs, e1, eFrz, c2]
  exact Y.fin_app e3
/-! ### common places -/
section
variable {h : Hm} {n p q : Nat} {ts : List (Nat × Nat)}
theorem inD_F {x : Nat} {r : List Nat} : inD h (nD x) (rowF r) = some (decide (x ∈ r)) := by
  have e := Y.inD_nD (h := h) (x := x) (r := r)
  simpa [inD, rowN, rowF, dctOf, dtuOf, seqOf, lstOf] using e
theorem near_F (hp : p < n) : ((nearOf n ts).map rowF)[p]? = some (rowF (row n ts p)) := by simp [Pg.near_row, hp]
theorem ixF (hp : p < n) : oIx h (nearF n ts) (nD p) = some (rowF (row n ts p)) := by rw [nearF, nD, Y.ix_fl, near_F hp]
theorem commL {σ : Sl} {a ip iq r : Nat} (ha : σ[a]? = some (some (nearF n ts))) (hp' : σ[ip]? = some (some (nD p))) (hq' : σ[iq]? = some (some (nD q))) (na : r ≠ a) (np : r ≠ ip) (nq : r ≠ iq) (hr : r < σ.length) (hp : p < n) (hq : q < n) (hn : n < 1000) :
    lComp (iA (Y.e2 oIx (eV a) (eV ip))) (gN r) (Y.tB (Y.e2 oIn (eV r) (Y.e2 oIx (eV a) (eV iq)))) (eV r) [r] σ h = .ok ((comm n ts p q).map nD) h := by
  have i1 : iA (Y.e2 oIx (eV a) (eV ip)) σ h = .ok ((row n ts p).map nD) h := by
    simp only [iA, Y.e2, eV, ha, hp', Rs.bind, ixF hp, ofO, rowF, seqOf, lstOf]
  have c1 := Y.compL_fm (g := gN r) (c := Y.tB (Y.e2 oIn (eV r) (Y.e2 oIx (eV a) (eV iq)))) (e := eV r) (σ := unset σ [r]) (h := h) nD (fun x => decide (x ∈ row n ts q)) nD (row n ts p) fun x m => ⟨_, rfl, by
    have g1 : ((unset σ [r]).set r (some (nD x)))[r]? = some (some (nD x)) := by simp [unset, hr]
    have g2 : ((unset σ [r]).set r (some (nD x)))[a]? = some (some (nearF n ts)) := by simp [unset, List.getElem?_set_ne na, ha]
    have g3 : ((unset σ [r]).set r (some (nD x)))[iq]? = some (some (nD q)) := by simp [unset, List.getElem?_set_ne nq, hq']
    simp only [Y.tB, Y.e2, eV, g1, g2, g3, Rs.bind, ixF hq, ofO, oIn, inD_F, Option.map_some], fun _ => by
    have g1 : ((unset σ [r]).set r (some (nD x)))[r]? = some (some (nD x)) := by simp [unset, hr]
    simp only [eV, g1]⟩
  have l1 : (((row n ts p).filter fun x => decide (x ∈ row n ts q)).map nD).length ≤ 100000 := by
    rw [List.length_map]
    have z1 := List.length_filter_le (fun x => decide (x ∈ row n ts q)) (row n ts p)
    have z2 := Pg.row_len (n := n) (p := p) (ts := ts)
    omega
  simp only [lComp, i1, Rs.bind, c1, Y.ll _ l1, if_true]
  rfl
end
end L25
end

section
set_option Elab.async false
set_option linter.all false
set_option maxRecDepth 100000
set_option maxHeartbeats 1000000
/-! X3: the law's own first reason. -/
namespace L25
open PySem Y L2
open Pg (row comm cmn deg pairsOf wrongOf unevenD small_nat mem_pairs)
/-- the search for a pair with another count -/
def scan (c : Nat × Nat → Nat) : Option Nat → List (Nat × Nat) → Option (Nat × Nat) × Option Nat
  | f, [] => (none, f)
  | none, t :: ts => scan c (some (c t)) ts
  | some f, t :: ts => if c t ≠ f then (some t, some f) else scan c (some f) ts
theorem scan_app (c : Nat × Nat → Nat) : ∀ (f : Option Nat) (xs ys : List (Nat × Nat)), scan c f (xs ++ ys) = match scan c f xs with
    | (some t, g) => (some t, g)
    | (none, g) => scan c g ys
  | none, [], ys => rfl
  | some f, [], ys => rfl
  | none, t :: ts, ys => by simp only [List.cons_append, scan]; exact scan_app c _ ts ys
  | some f, t :: ts, ys => by
    simp only [List.cons_append, scan]
    split
    · rfl
    · exact scan_app c _ ts ys
theorem scan_some (c : Nat × Nat → Nat) (f : Nat) : ∀ ts : List (Nat × Nat), (scan c (some f) ts).1 = ts.find? fun u => decide (c u ≠ f)
  | [] => rfl
  | t :: ts => by
    simp only [scan, List.find?_cons]
    by_cases h : c t = f
    · simp [h, scan_some c f ts]
    · simp [h]
theorem scan_wrong (n : Nat) (ts : List (Nat × Nat)) (b : Bool) : (scan (cmn n ts) none (pairsOf n ts b)).1 = wrongOf n ts b := by
  unfold wrongOf
  cases e : pairsOf n ts b with
  | nil => rfl
  | cons t us => simp [scan, scan_some, List.find?_cons]
section
variable {h : Hm} {n p q : Nat} {ts : List (Nat × Nat)} {w : Str} {b : Bool}
def fD : Option Nat → D
  | none => .non
  | some x => nD x
abbrev vS (n : Nat) (ts : List (Nat × Nat)) (s2 : Option D) (w : Str) (f : Option Nat) (s5 s6 s7 s8 : Option D) : Sl := [some (nD n), some (nearF n ts), s2, some (.str w), some (fD f), s5, s6, s7, s8]
theorem l3_ok (hw : oEq h (.str w) (.str "tied") = some (.bl b)) (hp : p < n) (hq : q < n) (hn : n < 1000) {s2 s7 s8 : Option D} {f : Option Nat} :
    match scan (cmn n ts) f (if (decide (q ∈ row n ts p) == b) = true then [(p, q)] else []) with
    | (some t, _) => b_u_law_uneven_l3 (vS n ts s2 w f (some (nD p)) (some (nD q)) s7 s8) h = .rt (.tup [.str w, tD t]) h
    | (none, g) => ∃ s7' s8', b_u_law_uneven_l3 (vS n ts s2 w f (some (nD p)) (some (nD q)) s7 s8) h = .nx (vS n ts s2 w g (some (nD p)) (some (nD q)) s7' s8') h := by
  have t1 : Y.tB (Y.e2 oEq (Y.e2 oIn (eV 6) (Y.e2 oIx (eV 1) (eV 5))) (Y.e2 oEq (eV 3) (eC (.str "tied")))) (vS n ts s2 w f (some (nD p)) (some (nD q)) s7 s8) h = .ok (decide (q ∈ row n ts p) == b) h := by
    simp only [Y.tB, Y.e2, eV, eC, List.getElem?_cons_zero, List.getElem?_cons_succ, Rs.bind, ixF hp, ofO, oIn, inD_F, Option.map_some, hw]
    simp [oEq, eqD]
  unfold b_u_law_uneven_l3 sIf
  rw [t1]
  simp only [Rs.out]
  by_cases c : (decide (q ∈ row n ts p) == b) = true
  · rw [if_pos c, if_pos c]
    have k1 := commL (h := h) (n := n) (ts := ts) (p := p) (q := q) (σ := vS n ts s2 w f (some (nD p)) (some (nD q)) s7 s8) (a := 1) (ip := 5) (iq := 6) (r := 8) rfl rfl rfl (by decide) (by decide) (by decide) (by simp) hp hq hn
    have k2 : (sAsg (gN 7) (eB bLen (aC (eFrz (lComp (iA (Y.e2 oIx (eV 1) (eV 5))) (gN 8) (Y.tB (Y.e2 oIn (eV 8) (Y.e2 oIx (eV 1) (eV 6)))) (eV 8) [8])) (aN)))) (vS n ts s2 w f (some (nD p)) (some (nD q)) s7 s8) h = .nx (vS n ts s2 w f (some (nD p)) (some (nD q)) (some (nD (cmn n ts (p, q)))) s8) h := by
      simp only [sAsg, eB, aC, aN, eFrz, k1, Rs.bind, Rs.out, bLen, seqOf, lstOf, Option.map_some, List.length_map, ofO, gN, outO, List.set_cons_succ, List.set_cons_zero]
      rfl
    unfold sSeq
    rw [k2]
    cases f with
    | none =>
      exact ⟨some (nD (cmn n ts (p, q))), s8, by simp [scan, sSeq, sIf, sAsg, sPass, Y.tB, Y.e2, eV, eC, Rs.bind, Rs.out, oIs, isN, oNe, eqD, ofO, fD, gN, outO, nD]⟩
    | some x =>
      by_cases d : cmn n ts (p, q) = x
      · simp only [scan, d, ne_eq, not_true_eq_false, if_false]
        exact ⟨some (nD x), s8, by simp [sSeq, sIf, sAsg, sPass, Y.tB, Y.e2, eV, eC, Rs.bind, Rs.out, oIs, isN, oNe, eqD, ofO, fD, gN, outO, nD]⟩
      · have d' : ¬ ((cmn n ts (p, q) : Int) = (x : Int)) := by omega
        simp only [scan, d, ne_eq, not_false_eq_true, if_true]
        simp [sSeq, sIf, sAsg, sPass, sRet, eTup, aC, aN, Y.tB, Y.e2, eV, eC, Rs.bind, Rs.out, oIs, isN, oNe, eqD, ofO, fD, gN, outO, nD, d', tD, Y.ll]
  · rw [if_neg c, if_neg c]
    exact ⟨s7, s8, rfl⟩
theorem l2_in (hw : oEq h (.str w) (.str "tied") = some (.bl b)) (hp : p < n) (hn : n < 1000) {s2 : Option D} : ∀ (m q : Nat) (f : Option Nat) (s6 s7 s8 : Option D), q + m ≤ n →
    match scan (cmn n ts) f (((List.range' q m).filter fun q => decide (q ∈ row n ts p) == b).map fun q => (p, q)) with
    | (some t, _) => forL (gN 6) b_u_law_uneven_l3 ((List.range' q m).map nD) (vS n ts s2 w f (some (nD p)) s6 s7 s8) h = .rt (.tup [.str w, tD t]) h
    | (none, g) => ∃ s6' s7' s8', forL (gN 6) b_u_law_uneven_l3 ((List.range' q m).map nD) (vS n ts s2 w f (some (nD p)) s6 s7 s8) h = .nx (vS n ts s2 w g (some (nD p)) s6' s7' s8') h
  | 0, q, f, s6, s7, s8, _ => ⟨s6, s7, s8, rfl⟩
  | m + 1, q, f, s6, s7, s8, hq => by
    have hd := l3_ok (h := h) (n := n) (ts := ts) (w := w) (b := b) (p := p) (q := q) hw hp (by omega) hn (s2 := s2) (s7 := s7) (s8 := s8) (f := f)
    have es : ((List.range' q (m + 1)).filter fun q => decide (q ∈ row n ts p) == b).map (fun q => (p, q)) = (if (decide (q ∈ row n ts p) == b) = true then [(p, q)] else []) ++ ((List.range' (q + 1) m).filter fun q => decide (q ∈ row n ts p) == b).map fun q => (p, q) := by
      rw [List.range'_succ, List.filter_cons]
      split <;> simp
    rw [es, scan_app]
    have g6 : gN 6 (nD q) (vS n ts s2 w f (some (nD p)) s6 s7 s8) = some (vS n ts s2 w f (some (nD p)) (some (nD q)) s7 s8) := rfl
    have er : (List.range' q (m + 1)).map nD = nD q :: (List.range' (q + 1) m).map nD := by rw [List.range'_succ, List.map_cons]
    rw [er]
    cases e : scan (cmn n ts) f (if (decide (q ∈ row n ts p) == b) = true then [(p, q)] else []) with
    | mk a g =>
      rw [e] at hd
      cases a with
      | some t =>
        simp only at hd ⊢
        simp only [forL, g6, hd]
      | none =>
        simp only at hd ⊢
        obtain ⟨s7', s8', e2⟩ := hd
        have ih := l2_in hw hp hn (s2 := s2) m (q + 1) g (some (nD q)) s7' s8' (by omega)
        simp only [forL, g6, e2]
        exact ih
theorem l2_ok (hw : oEq h (.str w) (.str "tied") = some (.bl b)) (hp : p < n) (hn : n < 1000) {s2 s6 s7 s8 : Option D} {f : Option Nat} :
    match scan (cmn n ts) f (((List.range' (p + 1) (n - (p + 1))).filter fun q => decide (q ∈ row n ts p) == b).map fun q => (p, q)) with
    | (some t, _) => b_u_law_uneven_l2 (vS n ts s2 w f (some (nD p)) s6 s7 s8) h = .rt (.tup [.str w, tD t]) h
    | (none, g) => ∃ s6' s7' s8', b_u_law_uneven_l2 (vS n ts s2 w f (some (nD p)) s6 s7 s8) h = .nx (vS n ts s2 w g (some (nD p)) s6' s7' s8') h := by
  have i1 : iR2 (aC (Y.e2 oAdd (eV 5) (eC (.int 1))) (aC (eV 0) (aN))) (vS n ts s2 w f (some (nD p)) s6 s7 s8) h = .ok ((List.range' (p + 1) (n - (p + 1))).map nD) h := by
    have a2 : aC (Y.e2 oAdd (eV 5) (eC (.int 1))) (aC (eV 0) (aN)) (vS n ts s2 w f (some (nD p)) s6 s7 s8) h = .ok [.int ((p + 1 : Nat) : Int), .int (n : Int)] h := by
      simp [aC, aN, Y.e2, eV, eC, Rs.bind, oAdd, nD, ofO]
    have e0 : ((n : Int) - ((p + 1 : Nat) : Int)).toNat = n - (p + 1) := by omega
    unfold iR2
    rw [a2]
    simp only [Rs.bind]
    rw [if_pos (by rw [small_nat (n := p + 1) (by omega), small_nat (n := n) (by omega)]; rfl), e0, rangeD_at]
    rfl
  have ih := l2_in (h := h) (n := n) (ts := ts) (w := w) (b := b) (p := p) hw hp hn (s2 := s2) (n - (p + 1)) (p + 1) f s6 s7 s8 (by omega)
  unfold b_u_law_uneven_l2 sFor
  rw [i1]
  simp only [Rs.out]
  exact ih
theorem l1_in (hw : oEq h (.str w) (.str "tied") = some (.bl b)) (hn : n < 1000) {s2 : Option D} : ∀ (m p : Nat) (f : Option Nat) (s5 s6 s7 s8 : Option D), p + m ≤ n →
    match scan (cmn n ts) f ((List.range' p m).flatMap fun p => ((List.range' (p + 1) (n - (p + 1))).filter fun q => decide (q ∈ row n ts p) == b).map fun q => (p, q)) with
    | (some t, _) => forL (gN 5) b_u_law_uneven_l2 ((List.range' p m).map nD) (vS n ts s2 w f s5 s6 s7 s8) h = .rt (.tup [.str w, tD t]) h
    | (none, g) => ∃ s5' s6' s7' s8', forL (gN 5) b_u_law_uneven_l2 ((List.range' p m).map nD) (vS n ts s2 w f s5 s6 s7 s8) h = .nx (vS n ts s2 w g s5' s6' s7' s8') h
  | 0, p, f, s5, s6, s7, s8, _ => ⟨s5, s6, s7, s8, rfl⟩
  | m + 1, p, f, s5, s6, s7, s8, hp => by
    have hd := l2_ok (h := h) (n := n) (ts := ts) (w := w) (b := b) (p := p) hw (by omega) hn (s2 := s2) (s6 := s6) (s7 := s7) (s8 := s8) (f := f)
    have g5 : gN 5 (nD p) (vS n ts s2 w f s5 s6 s7 s8) = some (vS n ts s2 w f (some (nD p)) s6 s7 s8) := rfl
    rw [List.range'_succ, List.flatMap_cons, List.map_cons, scan_app]
    cases e : scan (cmn n ts) f (((List.range' (p + 1) (n - (p + 1))).filter fun q => decide (q ∈ row n ts p) == b).map fun q => (p, q)) with
    | mk a g =>
      rw [e] at hd
      cases a with
      | some t =>
        simp only at hd ⊢
        simp only [forL, g5, hd]
      | none =>
        simp only at hd ⊢
        obtain ⟨s6', s7', s8', e2⟩ := hd
        have ih := l1_in hw hn (s2 := s2) m (p + 1) g (some (nD p)) s6' s7' s8' (by omega)
        simp only [forL, g5, e2]
        exact ih
theorem l1_ok (hw : oEq h (.str w) (.str "tied") = some (.bl b)) (hn : n < 1000) {s2 s4 s5 s6 s7 s8 : Option D} :
    match wrongOf n ts b with
    | some t => b_u_law_uneven_l1 [some (nD n), some (nearF n ts), s2, some (.str w), s4, s5, s6, s7, s8] h = .rt (.tup [.str w, tD t]) h
    | none => ∃ s4' s5' s6' s7' s8', b_u_law_uneven_l1 [some (nD n), some (nearF n ts), s2, some (.str w), s4, s5, s6, s7, s8] h = .nx [some (nD n), some (nearF n ts), s2, some (.str w), s4', s5', s6', s7', s8'] h := by
  have i1 : iR1 (aC (eV 0) (aN)) (vS n ts s2 w none s5 s6 s7 s8) h = .ok ((List.range' 0 n).map nD) h := by
    have s0 : small (n : Int) = true := small_nat (by omega)
    simp [iR1, aC, aN, eV, Rs.bind, nD, s0, rangeD_eq, List.range_eq_range']
  have ih := l1_in (h := h) (n := n) (ts := ts) (w := w) (b := b) hw hn (s2 := s2) n 0 none s5 s6 s7 s8 (by omega)
  have k0 : b_u_law_uneven_l1 [some (nD n), some (nearF n ts), s2, some (.str w), s4, s5, s6, s7, s8] h = b_u_law_uneven_l1_1 (vS n ts s2 w none s5 s6 s7 s8) h := rfl
  rw [k0, ← scan_wrong, pairsOf, List.range_eq_range']
  unfold b_u_law_uneven_l1_1 sFor
  rw [i1]
  simp only [Rs.out]
  cases e : scan (cmn n ts) none ((List.range' 0 n).flatMap fun p => ((List.range' (p + 1) (n - (p + 1))).filter fun q => decide (q ∈ row n ts p) == b).map fun q => (p, q)) with
  | mk a g =>
    rw [e] at ih
    cases a with
    | some t => exact ih
    | none =>
      obtain ⟨s5', s6', s7', s8', e2⟩ := ih
      exact ⟨_, s5', s6', s7', s8', e2⟩
theorem un_3 (hn : n < 1000) {s2 : Option D} : b_u_law_uneven_3 [some (nD n), some (nearF n ts), s2, none, none, none, none, none, none] h = .rt (match wrongOf n ts true with
    | some t => .tup [.str "tied", tD t]
    | none => match wrongOf n ts false with
      | some t => .tup [.str "untied", tD t]
      | none => .non) h := by
  have i1 : iA (eFrz (lLst (aC (eC (.str "tied")) (aC (eC (.str "untied")) (aN))))) [some (nD n), some (nearF n ts), s2, none, none, none, none, none, none] h = .ok [.str "tied", .str "untied"] h := by
    simp [iA, eFrz, lLst, aC, aN, eC, Rs.bind, seqOf, lstOf, ofO, Y.ll]
  have w1 := l1_ok (h := h) (n := n) (ts := ts) (w := "tied") (b := true) (by simp [oEq, eqD]) hn (s2 := s2) (s4 := none) (s5 := none) (s6 := none) (s7 := none) (s8 := none)
  unfold b_u_law_uneven_3 sSeq sFor
  rw [i1]
  simp only [Rs.out, forL, gN, List.set_cons_succ, List.set_cons_zero]
  cases e1 : wrongOf n ts true with
  | some t =>
    rw [e1] at w1
    simp only at w1
    simp only [w1]
  | none =>
    rw [e1] at w1
    obtain ⟨s4, s5, s6, s7, s8, w1⟩ := w1
    have w2 := l1_ok (h := h) (n := n) (ts := ts) (w := "untied") (b := false) (by simp [oEq, eqD]; try decide) hn (s2 := s2) (s4 := s4) (s5 := s5) (s6 := s6) (s7 := s7) (s8 := s8)
    simp only [w1]
    cases e2 : wrongOf n ts false with
    | some t =>
      rw [e2] at w2
      simp only at w2
      simp only [List.set_cons_succ, List.set_cons_zero, w2]
    | none =>
      rw [e2] at w2
      obtain ⟨s4', s5', s6', s7', s8', w2⟩ := w2
      simp only [List.set_cons_succ, List.set_cons_zero, w2, b_u_law_uneven_4, sRet, eC, Rs.out]
end
end L25
end

section
set_option Elab.async false
set_option linter.all false
set_option maxRecDepth 100000
set_option maxHeartbeats 1000000
/-! X4: the law's own first reason, whole. -/
namespace L25
open PySem Y L2
open Pg (row comm cmn deg pairsOf wrongOf unevenD small_nat mem_pairs)
section
variable {h : Hm} {n p q : Nat} {ts : List (Nat × Nat)}
theorem shaped_ints (r : List Nat) : SeqAt.shaped (.list (r.map fun (x : Nat) => PyData.int x)) = true := by simp [SeqAt.shaped, PyData.canLay0, PyData.depth, can_nD, dep_nD]
theorem ne_nil (r : List Nat) : oNe h (.fl (r.map nD)) (.fl []) = some (.bl (decide (r ≠ []))) := by
  have e1 : py h (.fl (r.map nD)) = some (.list (r.map fun (x : Nat) => PyData.int x)) := by simp [py, pyL_nD]
  have e2 : py h (.fl []) = some (.list []) := rfl
  have s2 : SeqAt.shaped (.list []) = true := shaped_ints []
  have e3 : PyData.eqv (.list (r.map fun (x : Nat) => PyData.int x)) (.list []) = decide (r = []) := by
    cases r <;> simp [PyData.eqv] <;> rfl
  simp only [oNe, eqD, e1, e2, shaped_ints, s2, Bool.and_self, if_true, e3, Option.map_some]
  simp
abbrev wS (n : Nat) (ts : List (Nat × Nat)) (s2 : Option D) : Sl := [some (nD n), some (nearF n ts), s2, none, none, none, none, none, none]
theorem len_F (r : List Nat) : bLen h [rowF r] = some (nD r.length) := by simp [bLen, rowF, seqOf, lstOf, nD]
theorem inL_2 {a b c : Nat} : inD h (nD a) (.fl [nD b, nD c]) = some (decide (a = b ∨ a = c)) := by
  have e := inD_F (h := h) (x := a) (r := [b, c])
  rw [rowF, List.map_cons, List.map_cons, List.map_nil] at e
  rw [e]
  simp
theorem law_uneven (n0 : 0 < n) (hn : n < 1000) : d_u_law_uneven [nD n, nearF n ts] h = .ok (unevenD n ts) h := by
  have z0 : oIx h (nearF n ts) (.int 0) = some (rowF (row n ts 0)) := ixF (p := 0) n0
  have o3 : oIn h (nD (deg n ts 0)) (.fl [.int 0, .int ((n : Int) - 1)]) = some (.bl (decide (deg n ts 0 = 0 ∨ deg n ts 0 = n - 1))) := by
    have e : (.fl [.int 0, .int ((n : Int) - 1)] : D) = .fl [nD 0, nD (n - 1)] := by
      have : (n : Int) - 1 = ((n - 1 : Nat) : Int) := by omega
      rw [this]; rfl
    rw [oIn, e, inL_2]; rfl
  have su : oSub h (nD n) (.int 1) = some (.int ((n : Int) - 1)) := rfl
  have q0 : oEq h (nD n) (.int 0) = some (.bl false) := by
    have : ¬ ((n : Int) = 0) := by omega
    simp [oEq, eqD, nD]; omega
  have s1 : b_u_law_uneven (wS n ts none) h = if deg n ts 0 = 0 ∨ deg n ts 0 = n - 1 then .rt (.tup [.str "degree", .int 0]) h else b_u_law_uneven_1 (wS n ts none) h := by
    have a1 : Y.tOr (Y.tB (Y.e2 oEq (eV 0) (eC (.int 0)))) (Y.tB (Y.e2 oIn (eB bLen (aC (Y.e2 oIx (eV 1) (eC (.int 0))) (aN))) (eFrz (lLst (aC (eC (.int 0)) (aC (Y.e2 oSub (eV 0) (eC (.int 1))) (aN))))))) (wS n ts none) h = .ok (decide (deg n ts 0 = 0 ∨ deg n ts 0 = n - 1)) h := by
      simp only [Y.tOr, Y.tB, Y.e2, eV, eC, eB, aC, aN, eFrz, lLst, List.getElem?_cons_zero, List.getElem?_cons_succ, Rs.bind, q0, ofO, z0, len_F, su, List.length_cons, List.length_nil, Y.ll 2 (by decide), if_true]
      simp only [Bool.false_eq_true, if_false, Rs.bind, show (row n ts 0).length = deg n ts 0 from rfl, o3]
      try simp [Y.ll, o3]
    unfold b_u_law_uneven sSeq sIf
    rw [a1]
    by_cases c : deg n ts 0 = 0 ∨ deg n ts 0 = n - 1
    · rw [if_pos c]; simp [c, Rs.out, sRet, eTup, aC, aN, eC, Rs.bind, Y.ll]
    · rw [if_neg c]; simp [c, Rs.out, sPass]
  have s2 : b_u_law_uneven_1 (wS n ts none) h = b_u_law_uneven_2 (wS n ts (some (.fl (((List.range n).filter fun p => decide (deg n ts p ≠ deg n ts 0)).map nD)))) h := by
    have c1 := compL_fm (g := gN 5) (c := Y.tB (Y.e2 oNe (eB bLen (aC (Y.e2 oIx (eV 1) (eV 5)) (aN))) (eB bLen (aC (Y.e2 oIx (eV 1) (eC (.int 0))) (aN))))) (e := eV 5) (σ := wS n ts none) (h := h) nD (fun p => decide (deg n ts p ≠ deg n ts 0)) nD (List.range n) fun p m => ⟨_, rfl, by
      have lt := List.mem_range.mp m
      simp only [Y.tB, Y.e2, eV, eC, eB, aC, aN, List.set_cons_succ, List.set_cons_zero, List.getElem?_cons_zero, List.getElem?_cons_succ, Rs.bind, ixF lt, z0, ofO, len_F]
      simp only [oNe, eqD, nD, deg, Option.map_some, Int.natCast_inj]
      by_cases e : (row n ts p).length = (row n ts 0).length <;> simp [e], fun _ => rfl⟩
    have i1 : iR1 (aC (eV 0) (aN)) (wS n ts none) h = .ok ((List.range n).map nD) h := by
      have s0 : small (n : Int) = true := small_nat (by omega)
      simp [iR1, aC, aN, eV, Rs.bind, nD, s0, rangeD_eq]
    have l1 : (((List.range n).filter fun p => decide (deg n ts p ≠ deg n ts 0)).map nD).length ≤ 100000 := by
      rw [List.length_map]
      have := List.length_filter_le (fun p => decide (deg n ts p ≠ deg n ts 0)) (List.range n)
      rw [List.length_range] at this
      omega
    have u0 : unset (wS n ts none) [5] = wS n ts none := rfl
    have k1 : lComp (iR1 (aC (eV 0) (aN))) (gN 5) (Y.tB (Y.e2 oNe (eB bLen (aC (Y.e2 oIx (eV 1) (eV 5)) (aN))) (eB bLen (aC (Y.e2 oIx (eV 1) (eC (.int 0))) (aN))))) (eV 5) [5] (wS n ts none) h = .ok (((List.range n).filter fun p => decide (deg n ts p ≠ deg n ts 0)).map nD) h := by
      simp only [lComp, i1, Rs.bind, u0, c1, Y.ll _ l1, if_true]
    unfold b_u_law_uneven_1 sSeq sAsg eFrz
    rw [k1]
    rfl
  have fin : ∀ {d : D}, b_u_law_uneven (wS n ts none) h = .rt d h → d_u_law_uneven [nD n, nearF n ts] h = .ok d h := fun {d} e => by
    have : d_u_law_uneven [nD n, nearF n ts] h = (match b_u_law_uneven (wS n ts none) h with | .rt d h' => finP h d h' | .nx _ h' => finP h .non h' | .ex e _ h' => .ex e h' | _ => .bad) := rfl
    rw [this, e]
    exact fin_same
  apply fin
  rw [s1]
  unfold unevenD
  by_cases c : deg n ts 0 = 0 ∨ deg n ts 0 = n - 1
  · rw [if_pos c, if_pos (by rcases c with c | c; exact .inr (.inl c); exact .inr (.inr (by omega)))]
    rfl
  · rw [if_neg c, if_neg (by rintro (c' | c' | c'); omega; exact c (.inl c'); exact c (.inr (by omega))), s2]
    have z1 : iA = iA := rfl
    cases e : (List.range n).filter fun p => decide (deg n ts p ≠ deg n ts 0) with
    | nil =>
      have e2 : (List.range n).find? (fun p => decide (deg n ts p ≠ deg n ts 0)) = none := by
        rw [← List.head?_filter, e]; rfl
      have nn := ne_nil (h := h) []
      rw [e2]
      have k2 : b_u_law_uneven_2 (wS n ts (some (.fl (([] : List Nat).map nD)))) h = b_u_law_uneven_3 (wS n ts (some (.fl []))) h := by
        have nn' : oNe h (.fl []) (.fl []) = some (.bl false) := nn
        simp [b_u_law_uneven_2, sSeq, sIf, sPass, Y.tB, Y.e2, eV, eFrz, lLst, aN, Rs.bind, Rs.out, nn', ofO]
      rw [k2]
      exact un_3 hn
    | cons p ps =>
      have e2 : (List.range n).find? (fun p => decide (deg n ts p ≠ deg n ts 0)) = some p := by
        rw [← List.head?_filter, e]; rfl
      have nn := ne_nil (h := h) (p :: ps)
      have ix : oIx h (.fl (nD p :: ps.map nD)) (.int 0) = some (nD p) := Y.ix_fl (i := 0)
      rw [e2]
      simp only [List.map_cons] at nn
      simp [b_u_law_uneven_2, sSeq, sIf, sRet, eTup, aC, aN, eC, Y.tB, Y.e2, eV, eFrz, lLst, Rs.bind, Rs.out, nn, ix, ofO, Y.ll]
end
end L25
end

section
set_option Elab.async false
set_option linter.all false
set_option maxRecDepth 100000
set_option maxHeartbeats 1000000
/-! X5: counting in even webs, their complements. -/
namespace Pg
open PySem Y L2
/-! ### counting -/
theorem count_one (c : Nat → Bool) (p : Nat) : ∀ n : Nat, (List.range n).countP (fun r => decide (r = p) && c r) = if p < n ∧ c p = true then 1 else 0
  | 0 => by simp
  | n + 1 => by
    rw [List.range_succ, List.countP_append, count_one c p n, List.countP_singleton]
    by_cases h1 : n = p
    · subst h1
      cases hc : c n <;> simp [hc]
    · by_cases h2 : p < n
      · have : p < n + 1 := by omega
        simp [h1, h2, this]
      · have : ¬ p < n + 1 := by omega
        simp [h1, h2, this]
theorem count_eq {p n : Nat} (h : p < n) : (List.range n).countP (fun r => decide (r = p)) = 1 := by
  have := count_one (fun _ => true) p n
  simpa [h] using this
theorem sum_const {f : Nat → Nat} {c : Nat} : ∀ xs : List Nat, (∀ x ∈ xs, f x = c) → (xs.map f).sum = xs.length * c
  | [], _ => by simp
  | x :: xs, h => by
    rw [List.map_cons, List.sum_cons, h x List.mem_cons_self, sum_const xs fun y m => h y (List.mem_cons_of_mem _ m), List.length_cons, Nat.succ_mul, Nat.add_comm]
theorem sum_add {f g : Nat → Nat} : ∀ ys : List Nat, (ys.map fun r => f r + g r).sum = (ys.map f).sum + (ys.map g).sum
  | [] => by simp
  | y :: ys => by simp only [List.map_cons, List.sum_cons, sum_add ys]; omega
theorem count_sum (P : Nat → Bool) : ∀ ys : List Nat, (ys.map fun r => if P r = true then 1 else 0).sum = ys.countP P
  | [] => by simp
  | y :: ys => by rw [List.map_cons, List.sum_cons, count_sum P ys, List.countP_cons, Nat.add_comm]
theorem sum_swap (P : Nat → Nat → Bool) (ys : List Nat) : ∀ xs : List Nat, (xs.map fun x => ys.countP (P x)).sum = (ys.map fun r => xs.countP fun x => P x r).sum
  | [] => by simp [sum_const (f := fun _ => 0) (c := 0)]
  | x :: xs => by
    rw [List.map_cons, List.sum_cons, sum_swap P ys xs]
    have : (ys.map fun r => (x :: xs).countP fun x => P x r) = ys.map fun r => (xs.countP fun x => P x r) + (if P x r = true then 1 else 0) := by
      apply List.map_congr_left
      intro r _
      rw [List.countP_cons]
    rw [this, sum_add, count_sum]
    omega
theorem sum3 (a b : Nat → Bool) (k l m : Nat) : ∀ xs : List Nat, (xs.map fun r => if a r = true then k else if b r = true then l else m).sum = xs.countP a * k + xs.countP (fun r => !a r && b r) * l + xs.countP (fun r => !a r && !b r) * m
  | [] => by simp
  | x :: xs => by
    rw [List.map_cons, List.sum_cons, sum3 a b k l m xs]
    simp only [List.countP_cons]
    cases a x <;> cases b x <;> simp [Nat.succ_mul] <;> omega
theorem len3 (a b : Nat → Bool) : ∀ xs : List Nat, xs.countP a + xs.countP (fun r => !a r && b r) + xs.countP (fun r => !a r && !b r) = xs.length
  | [] => by simp
  | x :: xs => by
    have := len3 a b xs
    simp only [List.countP_cons, List.length_cons]
    cases a x <;> cases b x <;> simp <;> omega
theorem incl (A B e f : Nat → Bool) : ∀ xs : List Nat, (∀ x ∈ xs, (e x && f x) = false) → xs.countP (fun r => !e r && !f r && !A r && !B r) + xs.countP A + xs.countP B + xs.countP (fun r => e r && (!A r && !B r)) + xs.countP (fun r => f r && (!A r && !B r)) = xs.length + xs.countP fun r => A r && B r
  | [], _ => by simp
  | x :: xs, h => by
    have ih := incl A B e f xs fun y m => h y (List.mem_cons_of_mem _ m)
    have hx := h x List.mem_cons_self
    simp only [List.countP_cons, List.length_cons]
    cases h1 : e x <;> cases h2 : f x <;> rw [h1, h2] at hx <;> cases A x <;> cases B x <;> simp at hx ⊢ <;> omega
theorem below (A B e : Nat → Bool) : ∀ xs : List Nat, (∀ x ∈ xs, e x = true → A x = true ∧ B x = false) → xs.countP (fun r => A r && B r) + xs.countP e ≤ xs.countP A
  | [], _ => by simp
  | x :: xs, h => by
    have ih := below A B e xs fun y m => h y (List.mem_cons_of_mem _ m)
    have hx := h x List.mem_cons_self
    simp only [List.countP_cons]
    cases h1 : e x
    · cases A x <;> cases B x <;> simp <;> omega
    · obtain ⟨h2, h3⟩ := hx h1
      simp [h2, h3]
      omega
/-! ### webs -/
section
variable {n k l m p q : Nat} {ts : List (Nat × Nat)}
theorem adj_comm : adj ts p q = adj ts q p := by simp only [adj]; exact decide_eq_decide.mpr Or.comm
theorem adj_self (T : Ties n ts) : adj ts p p = false := by
  simp only [adj, or_self, decide_eq_false_iff_not]
  intro m
  have := (T.ok _ m).1
  simp at this
theorem deg_count : deg n ts p = (List.range n).countP (adj ts p) := by rw [deg, row, List.countP_eq_length_filter]
theorem row_mem (T : Ties n ts) {r : Nat} (h : r < n) : decide (r ∈ row n ts q) = adj ts q r := by
  cases e : adj ts q r with
  | true => simpa using mem_row.mpr ⟨h, e⟩
  | false => simp [mem_row, e]
theorem cmn_count (T : Ties n ts) : cmn n ts (p, q) = (List.range n).countP fun r => adj ts p r && adj ts q r := by
  show (((List.range n).filter (adj ts p)).filter fun r => decide (r ∈ row n ts q)).length = _
  rw [List.filter_filter, ← List.countP_eq_length_filter]
  apply List.countP_congr
  intro r hr
  rw [row_mem (q := q) T (List.mem_range.mp hr), Bool.and_comm]
theorem cmn_comm (T : Ties n ts) : cmn n ts (p, q) = cmn n ts (q, p) := by
  rw [cmn_count T, cmn_count T]
  apply List.countP_congr
  intro r _
  rw [Bool.and_comm]
/-- an even web, in plain words -/
structure Evn (n : Nat) (ts : List (Nat × Nat)) (k l m : Nat) : Prop where
  T : Ties n ts
  n0 : 0 < n
  k0 : k ≠ 0
  kn : k + 1 ≠ n
  dg : ∀ p, p < n → deg n ts p = k
  tl : ∀ p q, p < n → q < n → adj ts p q = true → cmn n ts (p, q) = l
  un : ∀ p q, p < n → q < n → p ≠ q → adj ts p q = false → cmn n ts (p, q) = m
theorem wrong_none {b : Bool} (h : wrongOf n ts b = none) {t u : Nat × Nat} (ht : t ∈ pairsOf n ts b) (hu : u ∈ pairsOf n ts b) : cmn n ts u = cmn n ts t := by
  unfold wrongOf at h
  split at h
  · rename_i e; rw [e] at ht; cases ht
  · rename_i v vs e
    rw [List.find?_eq_none] at h
    have h1 := h t ht
    have h2 := h u hu
    simp at h1 h2
    omega
theorem evn (T : Ties n ts) (hu : isN (unevenD n ts) = true) : ∃ t v, t ∈ pairsOf n ts true ∧ v ∈ pairsOf n ts false ∧ Evn n ts (deg n ts 0) (cmn n ts t) (cmn n ts v) := by
  obtain ⟨t, us, et⟩ := even_pairs T hu true
  obtain ⟨v, vs, ev⟩ := even_pairs T hu false
  have mt : t ∈ pairsOf n ts true := by rw [et]; exact List.mem_cons_self
  have mv : v ∈ pairsOf n ts false := by rw [ev]; exact List.mem_cons_self
  refine ⟨t, v, mt, mv, ?_⟩
  unfold unevenD at hu
  split at hu
  · cases hu
  · rename_i h0
    cases e1 : (List.range n).find? fun p => decide (deg n ts p ≠ deg n ts 0) with
    | some p => rw [e1] at hu; cases hu
    | none =>
      rw [e1] at hu
      simp only at hu
      cases e2 : wrongOf n ts true with
      | some u => rw [e2] at hu; cases hu
      | none =>
        rw [e2] at hu
        simp only at hu
        cases e3 : wrongOf n ts false with
        | some u => rw [e3] at hu; cases hu
        | none =>
          rw [List.find?_eq_none] at e1
          have key : ∀ (b : Bool) (w : Nat × Nat), w ∈ pairsOf n ts b → wrongOf n ts b = none → ∀ p q, p < n → q < n → p ≠ q → adj ts p q = b → cmn n ts (p, q) = cmn n ts w := fun b w hw e p q hp hq ne ha => by
            rcases Nat.lt_or_ge p q with lt | ge
            · exact wrong_none e hw (mem_pairs.mpr ⟨lt, hq, by rw [row_mem T hq]; exact ha⟩)
            · rw [cmn_comm T]
              exact wrong_none e hw (mem_pairs.mpr ⟨show q < p by omega, hp, by rw [row_mem T hp, adj_comm]; exact ha⟩)
          exact ⟨T, by omega, by omega, by omega, fun p hp => by
            have := e1 p (List.mem_range.mpr hp)
            simpa using this, fun p q hp hq ha => key true t mt e2 p q hp hq (fun c => by subst c; rw [adj_self T] at ha; cases ha) ha, fun p q hp hq ne ha => key false v mv e3 p q hp hq ne ha⟩
theorem Evn.wrong (E : Evn n ts k l m) (b : Bool) : wrongOf n ts b = none := by
  have one : ∀ u ∈ pairsOf n ts b, cmn n ts u = if b then l else m := fun u hu => by
    obtain ⟨h1, h2, h3⟩ := mem_pairs.mp hu
    rw [row_mem E.T h2] at h3
    cases b with
    | true => exact E.tl u.1 u.2 (by omega) h2 h3
    | false => exact E.un u.1 u.2 (by omega) h2 (by omega) h3
  unfold wrongOf
  split
  · rfl
  · rename_i v vs e
    rw [List.find?_eq_none]
    intro u hu
    have := one u hu
    have := one v (by rw [e]; exact List.mem_cons_self)
    simp; omega
theorem Evn.non (E : Evn n ts k l m) : unevenD n ts = .non := by
  have d0 := E.dg 0 E.n0
  have h1 := E.n0
  have h2 := E.k0
  have h3 := E.kn
  unfold unevenD
  rw [if_neg (by omega)]
  have : (List.range n).find? (fun p => decide (deg n ts p ≠ deg n ts 0)) = none := by
    rw [List.find?_eq_none]
    intro p hp
    have := E.dg p (List.mem_range.mp hp)
    simp; omega
  rw [this]
  simp only [E.wrong true, E.wrong false]
/-- the told numbers go together -/
theorem Evn.square (E : Evn n ts k l m) : k * k = k + k * l + (n - 1 - k) * m := by
  have d0 := E.dg 0 E.n0
  have s1 : ((row n ts 0).map fun x => (List.range n).countP (adj ts x)).sum = k * k := by
    rw [sum_const (c := k)]
    · have : (row n ts 0).length = k := d0
      rw [this]
    · intro x hx
      rw [← deg_count]
      exact E.dg x (mem_row.mp hx).1
  rw [sum_swap] at s1
  have a0 := adj_self (p := 0) E.T
  have s2 : ((List.range n).map fun r => (row n ts 0).countP fun x => adj ts x r) = (List.range n).map fun r => if decide (r = 0) = true then k else if adj ts 0 r = true then l else m := by
    apply List.map_congr_left
    intro r hr
    have lt := List.mem_range.mp hr
    have e1 : (row n ts 0).countP (fun x => adj ts x r) = cmn n ts (0, r) := by
      rw [cmn_count E.T, row, List.countP_filter]
      apply List.countP_congr
      intro x _
      rw [adj_comm (p := x), Bool.and_comm]
    rw [e1]
    by_cases c : r = 0
    · subst c
      simp only [decide_true, if_true]
      rw [cmn_count E.T, ← d0, deg_count]
      apply List.countP_congr
      intro x _
      rw [Bool.and_self]
    · simp only [c, decide_false, Bool.false_eq_true, if_false]
      cases ha : adj ts 0 r with
      | true => simpa using E.tl 0 r E.n0 lt ha
      | false => simpa using E.un 0 r E.n0 lt (Ne.symm c) ha
  rw [s2, sum3] at s1
  have l3 := len3 (fun r => decide (r = 0)) (adj ts 0) (List.range n)
  rw [count_eq E.n0] at s1 l3
  have c2 : (List.range n).countP (fun r => !decide (r = 0) && adj ts 0 r) = k := by
    rw [← d0, deg_count]
    apply List.countP_congr
    intro x _
    by_cases c : x = 0
    · subst c; simp [a0]
    · simp [c]
  rw [c2] at s1 l3
  rw [List.length_range] at l3
  have c3 : (List.range n).countP (fun r => !decide (r = 0) && !adj ts 0 r) = n - 1 - k := by omega
  rw [c3] at s1
  omega
theorem Evn.less (E : Evn n ts k l m) (hp : p < n) (hq : q < n) (ha : adj ts p q = true) : l < k := by
  have h := below (adj ts p) (adj ts q) (fun r => decide (r = q)) (List.range n) fun x _ e => by
    have : x = q := by simpa using e
    subst this
    exact ⟨ha, adj_self E.T⟩
  rw [count_eq hq, ← deg_count, E.dg p hp, ← cmn_count E.T, E.tl p q hp hq ha] at h
  omega
theorem Evn.le (E : Evn n ts k l m) (hp : p < n) (hq : q < n) (ne : p ≠ q) (ha : adj ts p q = false) : m ≤ k := by
  have h := below (adj ts p) (adj ts q) (fun _ => false) (List.range n) fun x _ e => by cases e
  rw [← deg_count, E.dg p hp, ← cmn_count E.T, E.un p q hp hq ne ha] at h
  omega
/-! ### complements -/
def allOf (n : Nat) : List (Nat × Nat) := (List.range n).flatMap fun p => (List.range' (p + 1) (n - (p + 1))).map fun q => (p, q)
theorem mem_all {t : Nat × Nat} : t ∈ allOf n ↔ t.1 < t.2 ∧ t.2 < n := by
  simp only [allOf, List.mem_flatMap, List.mem_range, List.mem_map, List.mem_range'_1]
  constructor
  · rintro ⟨p, hp, q, hq, rfl⟩
    simp; omega
  · intro h
    exact ⟨t.1, by omega, t.2, by omega, rfl⟩
theorem all_asc : (allOf n).Pairwise lt2 := by
  unfold allOf
  rw [List.pairwise_flatMap]
  constructor
  · intro p hp
    rw [List.pairwise_map]
    exact (List.pairwise_lt_range' (s := p + 1) (n := n - (p + 1)) (step := 1) (by decide)).imp fun h => .inr ⟨rfl, h⟩
  · refine (List.pairwise_lt_range (n := n)).imp fun {a b} h x hx y hy => .inl ?_
    obtain ⟨_, _, rfl⟩ := List.mem_map.mp hx
    obtain ⟨_, _, rfl⟩ := List.mem_map.mp hy
    exact h
def comp (n : Nat) (ts : List (Nat × Nat)) : List (Nat × Nat) := (allOf n).filter fun t => decide (t ∉ ts)
theorem comp_ties : Ties n (comp n ts) := ⟨fun t h => mem_all.mp (List.mem_filter.mp h).1, all_asc.sublist List.filter_sublist⟩
theorem mem_comp {t : Nat × Nat} : t ∈ comp n ts ↔ (t.1 < t.2 ∧ t.2 < n) ∧ t ∉ ts := by
  rw [comp, List.mem_filter, mem_all]; simp
theorem comp_adj (T : Ties n ts) (hp : p < n) (hq : q < n) : adj (comp n ts) p q = (!decide (q = p) && !adj ts p q) := by
  have no : ∀ {a b : Nat}, b ≤ a → (a, b) ∉ ts := fun {a b} h m => by have := (T.ok _ m).1; simp at this; omega
  simp only [adj, mem_comp]
  rcases Nat.lt_trichotomy p q with h | h | h
  · have h1 : ¬ q < p := by omega
    have h2 : ¬ q = p := by omega
    simp [h, h1, h2, hq, no (Nat.le_of_lt h)]
  · subst h; simp
  · have h1 : ¬ p < q := by omega
    have h2 : ¬ q = p := by omega
    simp [h, h1, h2, hp, no (Nat.le_of_lt h)]
theorem comp_deg (T : Ties n ts) (hp : p < n) : deg n (comp n ts) p + deg n ts p + 1 = n := by
  have l3 := len3 (fun r => decide (r = p)) (adj ts p) (List.range n)
  rw [count_eq hp, List.length_range] at l3
  have c2 : (List.range n).countP (fun r => !decide (r = p) && adj ts p r) = deg n ts p := by
    rw [deg_count]
    apply List.countP_congr
    intro x _
    by_cases c : x = p
    · subst c; simp [adj_self T]
    · simp [c]
  have c3 : (List.range n).countP (fun r => !decide (r = p) && !adj ts p r) = deg n (comp n ts) p := by
    rw [deg_count]
    apply List.countP_congr
    intro x hx
    rw [comp_adj T hp (List.mem_range.mp hx)]
  omega
theorem comp_cmn (T : Ties n ts) (hp : p < n) (hq : q < n) (ne : p ≠ q) : cmn n (comp n ts) (p, q) + deg n ts p + deg n ts q + (if adj ts p q = true then 0 else 2) = n + cmn n ts (p, q) := by
  have h := incl (adj ts p) (adj ts q) (fun r => decide (r = p)) (fun r => decide (r = q)) (List.range n) fun x _ => by
    by_cases c : x = p
    · subst c; simp [ne]
    · simp [c]
  rw [count_one (fun r => !adj ts p r && !adj ts q r) p, count_one (fun r => !adj ts p r && !adj ts q r) q, ← deg_count, ← deg_count, List.length_range, ← cmn_count T] at h
  have e1 : (List.range n).countP (fun r => !decide (r = p) && !decide (r = q) && !adj ts p r && !adj ts q r) = cmn n (comp n ts) (p, q) := by
    rw [cmn_count comp_ties]
    apply List.countP_congr
    intro x hx
    have lx := List.mem_range.mp hx
    rw [comp_adj T hp lx, comp_adj T hq lx]
    cases decide (x = p) <;> cases decide (x = q) <;> cases adj ts p x <;> cases adj ts q x <;> rfl
  rw [e1, adj_self T, adj_self T, adj_comm (p := q)] at h
  cases ha : adj ts p q <;> rw [ha] at h <;> simp [hp, hq] at h ⊢ <;> omega
/-- the complement of an even web is even, with the turned numbers -/
theorem Evn.comp (E : Evn n ts k l m) (E1 : ∃ p q, p < n ∧ q < n ∧ adj ts p q = true) (E2 : ∃ p q, p < n ∧ q < n ∧ p ≠ q ∧ adj ts p q = false) : ∃ l' m', Evn n (comp n ts) (n - 1 - k) l' m' ∧ l' + 2 * k + 2 = n + m ∧ m' + 2 * k = n + l := by
  obtain ⟨p1, q1, hp1, hq1, a1⟩ := E1
  obtain ⟨p2, q2, hp2, hq2, ne2, a2⟩ := E2
  have T := E.T
  have ne1 : p1 ≠ q1 := fun c => by subst c; rw [adj_self T] at a1; cases a1
  have c1 := comp_cmn T hp1 hq1 ne1
  have c2 := comp_cmn T hp2 hq2 ne2
  rw [E.dg p1 hp1, E.dg q1 hq1, E.tl p1 q1 hp1 hq1 a1, a1] at c1
  rw [E.dg p2 hp2, E.dg q2 hq2, E.un p2 q2 hp2 hq2 ne2 a2, a2] at c2
  simp at c1 c2
  have d0 := comp_deg T E.n0
  rw [E.dg 0 E.n0] at d0
  have k0 := E.k0
  have kn := E.kn
  refine ⟨cmn n (Pg.comp n ts) (p2, q2), cmn n (Pg.comp n ts) (p1, q1), ⟨comp_ties, E.n0, by omega, by omega, fun p hp => ?_, fun p q hp hq ha => ?_, fun p q hp hq ne ha => ?_⟩, by omega, by omega⟩
  · have := comp_deg T hp
    rw [E.dg p hp] at this
    omega
  · have ne : p ≠ q := fun c => by subst c; rw [adj_self comp_ties] at ha; cases ha
    rw [comp_adj T hp hq] at ha
    have h' : adj ts p q = false := by
      cases e : adj ts p q with
      | false => rfl
      | true => rw [e] at ha; simp at ha
    have c := comp_cmn T hp hq ne
    rw [E.dg p hp, E.dg q hq, E.un p q hp hq ne h', h'] at c
    simp at c
    omega
  · rw [comp_adj T hp hq] at ha
    have h' : adj ts p q = true := by
      cases e : adj ts p q with
      | true => rfl
      | false => rw [e] at ha; simp at ha; omega
    have c := comp_cmn T hp hq ne
    rw [E.dg p hp, E.dg q hq, E.tl p q hp hq h', h'] at c
    simp at c
    omega
end
end Pg
end

section
set_option Elab.async false
set_option linter.all false
set_option maxRecDepth 100000
set_option maxHeartbeats 1000000
/-! X6: complements and counts, by the program. -/
namespace L25
open PySem Y L2
open Pg (row comm cmn deg pairsOf small_nat mem_pairs webD allOf comp nearOf near_row fld_p fld_t fld_n need_web Ties mem_all mem_comp)
theorem findG {κ : Type} [DecidableEq κ] (a : List (κ × D)) (k : κ) : (getK a k).isSome = a.any fun kv => decide (kv.1 = k) := by
  unfold getK
  rw [Option.isSome_map]
  induction a with
  | nil => rfl
  | cons x a ih =>
    rw [List.find?_cons, List.any_cons]
    cases h : decide (x.1 = k) with
    | true => rfl
    | false => simpa using ih
theorem setG {κ : Type} [DecidableEq κ] (a : List (κ × D)) (k k2 : κ) (v : D) : (getK (setK a k v) k2).isSome = ((getK a k2).isSome || decide (k = k2)) := by
  rw [findG, findG]
  unfold setK
  split
  · rename_i h
    rw [List.any_map]
    have e : (a.any ((fun kv => decide (kv.1 = k2)) ∘ fun kv => if kv.1 = k then (kv.1, v) else kv)) = a.any fun kv => decide (kv.1 = k2) := by
      congr 1
      funext kv
      simp only [Function.comp_apply]
      split <;> rfl
    rw [e]
    by_cases c : k = k2
    · subst c
      rw [h]; simp
    · simp [c]
  · rw [List.any_append]; simp
theorem setG_len {κ : Type} [DecidableEq κ] (a : List (κ × D)) (k : κ) (v : D) : (setK a k v).length ≤ a.length + 1 := by
  unfold setK
  split <;> simp
section
variable {h : Hm} {n p q : Nat} {ts : List (Nat × Nat)}
def keyT (t : Nat × Nat) : List Key := [.inl (t.1 : Nat), .inl (t.2 : Nat)]
theorem tk_tD (t : Nat × Nat) : tkOf (tD t) = some (keyT t) := rfl
theorem keyT_inj {s t : Nat × Nat} : keyT s = keyT t ↔ s = t := by
  constructor
  · intro e
    simp only [keyT, List.cons.injEq, and_true] at e
    obtain ⟨e1, e2⟩ := e
    injection e1 with e1
    injection e2 with e2
    exact Prod.ext (by omega) (by omega)
  · rintro rfl; rfl
/-- {tie: True for tie in ties} -/
theorem dcT_ties (σ : Sl) (i : Nat) (hi : ∀ d, (σ.set i (some d))[i]? = some (some d)) : ∀ (r : List (Nat × Nat)) (a : List (List Key × D)), a.length + r.length < 100000 → ∃ a', dcT (gN i) Y.tYes (eV i) (eC (.bl true)) σ (r.map tD) a h = .ok a' h ∧ ∀ x : Nat × Nat, (getK a' (keyT x)).isSome = ((getK a (keyT x)).isSome || decide (x ∈ r))
  | [], a, _ => ⟨a, rfl, by simp⟩
  | x :: r, a, hl => by
    simp only [List.length_cons] at hl
    have l1 : a.length < line := Nat.lt_of_lt_of_le (show a.length < 100000 by omega) (by decide)
    have l2 := setG_len a (keyT x) (.bl true)
    obtain ⟨a', e, k⟩ := dcT_ties σ i hi r (setK a (keyT x) (.bl true)) (by omega)
    refine ⟨a', ?_, fun y => ?_⟩
    · rw [← e]
      simp [dcT, gN, Y.tYes, Rs.bindN, eV, hi, eC, tk_tD, l1]
    · rw [k y, setG, Bool.or_assoc]
      congr 1
      by_cases c : x = y
      · subst c; simp
      · have : ¬ keyT x = keyT y := fun z => c (keyT_inj.mp z)
        simp [this, Ne.symm c]
theorem all_len : (allOf n).length ≤ n * n := by
  have : ∀ xs : List Nat, (xs.flatMap fun p => (List.range' (p + 1) (n - (p + 1))).map fun q => (p, q)).length ≤ xs.length * n := fun xs => by
    induction xs with
    | nil => simp
    | cons x xs ih =>
      rw [List.flatMap_cons, List.length_append, List.length_cons, Nat.succ_mul]
      simp only [List.length_map, List.length_range'] at ih ⊢
      omega
  simpa [allOf] using this (List.range n)
theorem all_small (hn : n < 300) : (allOf n).length < 90000 := by
  have h1 := all_len (n := n)
  have : n * n ≤ 299 * 299 := Nat.mul_le_mul (by omega) (by omega)
  omega
theorem all_pairs (hn : n < 300) : d_all_pairs [nD n] h = .ok (.fl ((allOf n).map tD)) h := by
  have s0 : small (n : Int) = true := small_nat (by omega)
  have c1 := comp2L_m (g := gN 1) (m := inn Y.tYes (iR2 (aC (Y.e2 oAdd (eV 1) (eC (.int 1))) (aC (eV 0) (aN)))) (gN 2) Y.tYes (eTup (aC (eV 1) (aC (eV 2) (aN)))) [2])
    (σ := [some (nD n), none, none]) (h := h) nD (fun p => ((List.range' (p + 1) (n - (p + 1))).map fun q => (p, q)).map tD) (List.range n) fun p m => ⟨_, rfl, by
      have lp := List.mem_range.mp m
      have s1 : small ((p + 1 : Nat) : Int) = true := small_nat (by omega)
      have e0 : ((n : Int) - ((p + 1 : Nat) : Int)).toNat = n - (p + 1) := by omega
      have c0 := compL_m (g := gN 2) (e := eTup (aC (eV 1) (aC (eV 2) (aN)))) (σ := [some (nD n), some (nD p), none]) (h := h)
        nD (fun q => tD (p, q)) (List.range' (p + 1) (n - (p + 1))) fun q _ => ⟨_, rfl, by simp [eTup, aC, aN, eV, Rs.bind, tD, Y.ll]⟩
      have i1 : iR2 (aC (Y.e2 oAdd (eV 1) (eC (.int 1))) (aC (eV 0) (aN))) [some (nD n), some (nD p), none] h = .ok ((List.range' (p + 1) (n - (p + 1))).map nD) h := by
        have a2 : aC (Y.e2 oAdd (eV 1) (eC (.int 1))) (aC (eV 0) (aN)) [some (nD n), some (nD p), none] h = .ok [.int ((p + 1 : Nat) : Int), .int (n : Int)] h := by
          simp [aC, aN, Y.e2, eV, eC, Rs.bind, oAdd, nD, ofO]
        unfold iR2
        rw [a2]
        simp only [Rs.bind]
        rw [if_pos (by rw [s1, s0]; rfl), e0, rangeD_at]
        rfl
      have u1 : unset [some (nD n), some (nD p), none] [2] = [some (nD n), some (nD p), none] := rfl
      simp only [inn, Y.tYes, Rs.bindN, if_true, List.set_cons_succ, List.set_cons_zero, i1, u1, c0, List.map_map]
      rfl⟩
  have i0 : iR1 (aC (eV 0) (aN)) [some (nD n), none, none] h = .ok ((List.range n).map nD) h := by
    simp [iR1, aC, aN, eV, Rs.bind, nD, s0, rangeD_eq]
  have l1 : ((List.range n).flatMap fun p => ((List.range' (p + 1) (n - (p + 1))).map fun q => (p, q)).map tD).length ≤ 100000 := by
    have e : ((List.range n).flatMap fun p => ((List.range' (p + 1) (n - (p + 1))).map fun q => (p, q)).map tD) = (allOf n).map tD := by rw [allOf, List.map_flatMap]
    rw [e, List.length_map]
    have := all_small hn
    omega
  have k1 : lComp2 (iR1 (aC (eV 0) (aN))) (gN 1) Y.tYes (iR2 (aC (Y.e2 oAdd (eV 1) (eC (.int 1))) (aC (eV 0) (aN)))) (gN 2) Y.tYes (eTup (aC (eV 1) (aC (eV 2) (aN)))) [1, 2] [2] [some (nD n), none, none] h = .ok ((allOf n).map tD) h := by
    have u0 : unset [some (nD n), none, none] [1, 2] = [some (nD n), none, none] := rfl
    simp only [lComp2, i0, Rs.bind, u0, c1, Y.ll _ l1, if_true]
    rw [allOf, List.map_flatMap]
  have key : ∀ A : Lv, A [some (nD n), none, none] h = .ok ((allOf n).map tD) h → fnP 3 (sRet (eFrz A)) [nD n] h = .ok (.fl ((allOf n).map tD)) h := fun A e => by
    simp [fnP, startD, sRet, eFrz, e, Rs.bind, Rs.out, finP]
  exact key _ k1
theorem complement (T : Ties n ts) (hn : n < 300) (hl : ts.length < 90000) : d_complement [webD n ts] h = .ok (webD n (comp n ts)) h := by
  obtain ⟨a, e1, k⟩ := dcT_ties (h := h) [some (webD n ts), none, none, none] 2 (fun d => rfl) ts [] (by simp; omega)
  have k0 : eDcT (iA (Y.e1 (oFld "Web" "ties") (eV 0))) (gN 2) Y.tYes (eV 2) (eC (.bl true)) [2] [some (webD n ts), none, none, none] h = .ok (.loc h.length) (h ++ [.dtu a]) := by
    have i1 : iA (Y.e1 (oFld "Web" "ties") (eV 0)) [some (webD n ts), none, none, none] h = .ok (ts.map tD) h := by
      simp [iA, Y.e1, eV, Rs.bind, fld_t, ofO]
    have u1 : unset [some (webD n ts), none, none, none] [2] = [some (webD n ts), none, none, none] := rfl
    simp only [eDcT, i1, Rs.bind, u1, e1]
  have c1 := compL_fm (g := gN 3) (c := Y.tB (Y.e2 oNotIn (eV 3) (eV 1))) (e := eV 3) (σ := [some (webD n ts), some (.loc h.length), none, none]) (h := h ++ [.dtu a]) tD (fun t => decide (t ∉ ts)) tD (allOf n) fun t _ => ⟨_, rfl, by
    have g1 : (h ++ [Ob.dtu a])[h.length]? = some (.dtu a) := by simp
    have g2 : oNotIn (h ++ [Ob.dtu a]) (tD t) (.loc h.length) = some (.bl (decide (t ∉ ts))) := by
      have := k t
      rw [oNotIn, inD]
      simp only [dctOf, dtuOf, g1, tk_tD, this]
      simp [getK]
    simp [Y.tB, Y.e2, eV, Rs.bind, g2, ofO], fun _ => rfl⟩
  have lc : (comp n ts).length < 90000 := Nat.lt_of_le_of_lt (List.length_filter_le _ _) (all_small hn)
  have k1 : lComp (iA (eCall d_all_pairs (aC (Y.e1 (oFld "Web" "places") (eV 0)) (aN)))) (gN 3) (Y.tB (Y.e2 oNotIn (eV 3) (eV 1))) (eV 3) [3] [some (webD n ts), some (.loc h.length), none, none] (h ++ [.dtu a]) = .ok ((comp n ts).map tD) (h ++ [.dtu a]) := by
    have i1 : iA (eCall d_all_pairs (aC (Y.e1 (oFld "Web" "places") (eV 0)) (aN))) [some (webD n ts), some (.loc h.length), none, none] (h ++ [.dtu a]) = .ok ((allOf n).map tD) (h ++ [.dtu a]) := by
      simp [iA, eCall, aC, aN, Y.e1, eV, Rs.bind, fld_p, ofO, all_pairs hn, seqOf, lstOf]
    have u1 : unset [some (webD n ts), some (.loc h.length), none, none] [3] = [some (webD n ts), some (.loc h.length), none, none] := rfl
    have s1 : (((allOf n).filter fun t => decide (t ∉ ts)).map tD).length ≤ 100000 := by
      rw [List.length_map]
      have : ((allOf n).filter fun t => decide (t ∉ ts)).length < 90000 := lc
      omega
    simp only [lComp, i1, Rs.bind, u1, c1, Y.ll _ s1, if_true]
    rfl
  have kw : d_Web [nD n, .tup ((comp n ts).map tD)] (h ++ [.dtu a]) = .ok (webD n (comp n ts)) (h ++ [.dtu a]) := Pg.web Pg.comp_ties (by omega) (by omega)
  have low : D.low h.length (webD n (comp n ts)) = true := by simp [webD, D.low, D.lowL, low_ties, low_rows, nD]
  have ci : d_complement_in [webD n ts] h = .ok (webD n (comp n ts)) h := by
    have key : ∀ (A : Ev) (B : Lv), A [some (webD n ts), none, none, none] h = .ok (.loc h.length) (h ++ [.dtu a]) → B [some (webD n ts), some (.loc h.length), none, none] (h ++ [.dtu a]) = .ok ((comp n ts).map tD) (h ++ [.dtu a]) →
        fnP 4 (sSeq (sAsg (gN 1) A) (sRet (eCall d_Web (aC (Y.e1 (oFld "Web" "places") (eV 0)) (aC (eB bTuple (aC (eFrz B) (aN))) (aN)))))) [webD n ts] h = .ok (webD n (comp n ts)) h := fun A B e1 e2 => by
      have := fin_app (l := [.dtu a]) low
      simp [fnP, startD, sSeq, sAsg, sRet, eB, eCall, Y.e1, eV, aC, aN, eFrz, e1, e2, Rs.bind, Rs.out, outO, gN, fld_p, bTuple, lstOf, ofO, kw, this]
    exact key _ _ k0 k1
  have nw : d_need_web [webD n ts] h = .ok .non h := need_web
  simp [d_complement, b_complement, b_complement_1, fnP, startD, sSeq, sExpr, sRet, eCall, aC, aN, eV, Rs.bind, Rs.out, nw, ci, finP]
/-! ### counts -/
theorem rng1 (hn : n < 300) : mRng1 (nD n) = some ((List.range n).map nD) := by
  have h2 : n.log2 < 24 := by
    by_cases e : n = 0
    · subst e; decide
    · rw [Nat.log2_lt e]; omega
  simp [mRng1, nD, rangeD_eq, h2]
def cntD (n : Nat) (ts : List (Nat × Nat)) : D := .tup ((List.range n).map fun p => .tup ((List.range n).map fun q => nD (cmn n ts (p, q))))
theorem common_counts (hn : n < 300) : d_common_counts [webD n ts] h = .ok (cntD n ts) h := by
  have nw : d_need_web [webD n ts] h = .ok .non h := need_web
  have s0 : small (n : Int) = true := small_nat (by omega)
  have L : (n ≤ line) = True := Y.ll n (by omega)
  have c0 : ∀ p, p < n → ∀ s3, compL (gN 3) Y.tYes (eB bLen (aC (eCall d_common_in (aC (eV 0) (aC (eV 2) (aC (eV 3) (aN))))) (aN))) [some (webD n ts), some (.fl ((List.range n).map nD)), some (nD p), s3] ((List.range n).map nD) h = .ok ((List.range n).map fun q => nD (cmn n ts (p, q))) h := fun p hp s3 => by
    refine compL_m nD (fun q => nD (cmn n ts (p, q))) (List.range n) fun q m => ⟨_, rfl, ?_⟩
    have hc : d_common_in [webD n ts, nD p, nD q] h = .ok (rowN (comm n ts p q)) h := Pg.common hp (List.mem_range.mp m) (by omega)
    simp only [eB, eCall, aC, aN, eV, List.set_cons_succ, List.set_cons_zero, List.getElem?_cons_zero, List.getElem?_cons_succ, Rs.bind, hc, bLen, rowN, seqOf, Option.map_some, ofO, List.length_map]
    rfl
  have k1 : ∀ p, p < n → ∀ s3, lComp (iA (eV 1)) (gN 3) Y.tYes (eB bLen (aC (eCall d_common_in (aC (eV 0) (aC (eV 2) (aC (eV 3) (aN))))) (aN))) [3] [some (webD n ts), some (.fl ((List.range n).map nD)), some (nD p), s3] h = .ok ((List.range n).map fun q => nD (cmn n ts (p, q))) h := fun p hp s3 => by
    simp only [lComp, iA, eV, List.getElem?_cons_zero, List.getElem?_cons_succ, Rs.bind, seqOf, lstOf, ofO, unset, List.set_cons_succ, List.set_cons_zero, c0 p hp, List.length_map, List.length_range, L, if_true]
  have c1 := compL_m (g := gN 2) (e := eB bTuple (aC (eFrz (lComp (iA (eV 1)) (gN 3) Y.tYes (eB bLen (aC (eCall d_common_in (aC (eV 0) (aC (eV 2) (aC (eV 3) (aN))))) (aN))) [3])) (aN))) (σ := [some (webD n ts), some (.fl ((List.range n).map nD)), none, none]) (h := h) nD (fun p => .tup ((List.range n).map fun q => nD (cmn n ts (p, q)))) (List.range n) fun p m => ⟨_, rfl, by
    simp only [eB, aC, aN, eFrz, List.set_cons_succ, List.set_cons_zero, k1 p (List.mem_range.mp m), Rs.bind, bTuple, lstOf, Option.map_some, ofO]⟩
  have k2 : lComp (iA (eV 1)) (gN 2) Y.tYes (eB bTuple (aC (eFrz (lComp (iA (eV 1)) (gN 3) Y.tYes (eB bLen (aC (eCall d_common_in (aC (eV 0) (aC (eV 2) (aC (eV 3) (aN))))) (aN))) [3])) (aN))) [2] [some (webD n ts), some (.fl ((List.range n).map nD)), none, none] h = .ok ((List.range n).map fun p => .tup ((List.range n).map fun q => nD (cmn n ts (p, q)))) h := by
    simp only [lComp, iA, eV, List.getElem?_cons_zero, List.getElem?_cons_succ, Rs.bind, seqOf, lstOf, ofO, unset, List.set_cons_succ, List.set_cons_zero]
    simp only [eFrz, c1, List.length_map, List.length_range, L, if_true]
  have ci : d_counts_in [webD n ts] h = .ok (cntD n ts) h := by
    have key : ∀ B : Lv, B [some (webD n ts), some (.fl ((List.range n).map nD)), none, none] h = .ok ((List.range n).map fun p => .tup ((List.range n).map fun q => nD (cmn n ts (p, q)))) h →
        fnP 4 (sSeq (sAsg (gN 1) (eFrz (lRng1 (Y.e1 (oFld "Web" "places") (eV 0))))) (sRet (eB bTuple (aC (eFrz B) (aN))))) [webD n ts] h = .ok (cntD n ts) h := fun B e => by
      have r1 : lRng1 (Y.e1 (oFld "Web" "places") (eV 0)) [some (webD n ts), none, none, none] h = .ok ((List.range n).map nD) h := by
        have v1 : Y.e1 (oFld "Web" "places") (eV 0) [some (webD n ts), none, none, none] h = .ok (nD n) h := by simp [Y.e1, eV, Rs.bind, fld_p, ofO]
        unfold lRng1
        rw [v1]
        simp only [Rs.bind, rng1 (show n < 300 by omega), ofO]
      simp only [fnP, startD, sSeq, sAsg, sRet, eB, aC, aN, eFrz, List.map_cons, List.map_nil, List.length_cons, List.length_nil, List.cons_append, List.nil_append, List.replicate, r1, e, Rs.bind, Rs.out, outO, gN, List.set_cons_succ, List.set_cons_zero, bTuple, lstOf, Option.map_some, ofO]
      exact fin_same
    exact key _ k2
  simp [d_common_counts, b_common_counts, b_common_counts_1, fnP, startD, sSeq, sExpr, sRet, eCall, aC, aN, eV, Rs.bind, Rs.out, nw, ci, finP]
theorem common_near (hp : p < n) (hq : q < n) (hn : n < 300) : d_common_near [webD n ts, nD p, nD q] h = .ok (rowN (comm n ts p q)) h := by
  have nw : d_need_web [webD n ts] h = .ok .non h := need_web
  have e1 : d_need_place [webD n ts, nD p] h = .ok .non h := Pg.need_place (p : Int) (by omega) (by omega)
  have e2 : d_need_place [webD n ts, nD q] h = .ok .non h := Pg.need_place (q : Int) (by omega) (by omega)
  have hc : d_common_in [webD n ts, nD p, nD q] h = .ok (rowN (comm n ts p q)) h := Pg.common hp hq (by omega)
  simp [d_common_near, b_common_near, b_common_near_3, b_common_near_2, b_common_near_1, fnP, startD, sSeq, sExpr, sRet, eCall, aC, aN, eV, Rs.bind, Rs.out, nw, e1, e2, hc, finP]
end
end L25
end

section
set_option Elab.async false
set_option linter.all false
set_option maxRecDepth 100000
set_option maxHeartbeats 0
/-! X7: the told webs. -/
namespace L25
open PySem Y L2
open Pg (small_nat webD allOf Ties lt2)
section
variable {h : Hm} {n : Nat} {o x y z : Ob}
instance : Decidable (lt2 a b) := by unfold lt2; infer_instance
theorem ties_of {n : Nat} {ts : List (Nat × Nat)} (h : (ts.all fun t => decide (t.1 < t.2 ∧ t.2 < n)) = true) (h2 : decide (ts.Pairwise lt2) = true) : Ties n ts := ⟨fun t m => by simpa using List.all_eq_true.mp h t m, of_decide_eq_true h2⟩
theorem need_num : d_need_number [.str "n", nD n] h = .ok .non h := by
  have c : d_is_count [nD n] h = .ok (.bl true) h := Pg.count_n
  simp [d_need_number, b_need_number, fnP, startD, sIf, sPass, Y.tNot, Y.tT, eCall, aC, aN, eV, Rs.bind, Rs.out, c, truth, ofO, finP]
theorem ring_of {n : Nat} {ps ts : List (Nat × Nat)} {kvs : List (List Key × D)} (n3 : 3 ≤ n) (hn : n < 300)
    (H1 : lComp (iR1 (aC (eV 0) (aN))) (gN 1) Y.tYes (eTup (aC (eV 1) (aC (Y.e2 oMod (Y.e2 oAdd (eV 1) (eC (.int 1))) (eV 0)) (aN)))) [1] [some (nD n), none] h = .ok (ps.map tD) h)
    (H2 : dcT (gT [gN 3, gN 4]) Y.tYes (eTup (aC (eB bMin2 (aC (eV 3) (aC (eV 4) (aN)))) (aC (eB bMax2 (aC (eV 3) (aC (eV 4) (aN)))) (aN)))) (eC (.bl true)) [some (nD n), some (.fl (ps.map tD)), none, none, none] (ps.map tD) [] h = .ok kvs h)
    (H3 : sortD (kvs.map fun kv => .tup (kv.1.map keyD)) = some (ts.map tD)) (T : Ties n ts) (hl : ts.length < 90000) : d_ring_web [nD n] h = .ok (webD n ts) h := by
  have g1 : (h ++ [Ob.dtu kvs])[h.length]? = some (.dtu kvs) := by simp
  have kw : d_Web [nD n, .tup (ts.map tD)] (h ++ [.dtu kvs]) = .ok (webD n ts) (h ++ [.dtu kvs]) := Pg.web T (by omega) (by omega)
  have low : D.low h.length (webD n ts) = true := by simp [webD, D.low, D.lowL, low_ties, low_rows, nD]
  have k0 : eDcT (iA (eV 1)) (gT [gN 3, gN 4]) Y.tYes (eTup (aC (eB bMin2 (aC (eV 3) (aC (eV 4) (aN)))) (aC (eB bMax2 (aC (eV 3) (aC (eV 4) (aN)))) (aN)))) (eC (.bl true)) [3, 4] [some (nD n), some (.fl (ps.map tD)), none, none, none] h = .ok (.loc h.length) (h ++ [.dtu kvs]) := by
    have u1 : unset [some (nD n), some (.fl (ps.map tD)), none, none, none] [3, 4] = [some (nD n), some (.fl (ps.map tD)), none, none, none] := rfl
    simp only [eDcT, iA, eV, List.getElem?_cons_zero, List.getElem?_cons_succ, Rs.bind, seqOf, lstOf, ofO, u1]
    simp only [H2]
  have wb : d_web_by [nD n, .fl (ps.map tD)] h = .ok (webD n ts) h := by
    have key : ∀ A : Ev, A [some (nD n), some (.fl (ps.map tD)), none, none, none] h = .ok (.loc h.length) (h ++ [.dtu kvs]) → fnP 5 (sSeq (sAsg (gN 2) A) b_web_by_1) [nD n, .fl (ps.map tD)] h = .ok (webD n ts) h := fun A e => by
      have := fin_app (l := [.dtu kvs]) low
      simp [b_web_by_1, fnP, startD, sSeq, sAsg, sRet, eB, lB, eCall, eV, aC, aN, eFrz, e, Rs.bind, Rs.out, outO, gN, mSortA, keysD, dtuOf, g1, H3, bTuple, lstOf, ofO, kw, this]
    exact key _ k0
  have lt : ¬ ((n : Int) < 3) := by omega
  have nn : d_need_number [.str "n", nD n] h = .ok .non h := need_num
  have key : ∀ A : Lv, A [some (nD n), none] h = .ok (ps.map tD) h → fnP 2 (sSeq (sExpr (eCall d_need_number (aC (eC (.str "n")) (aC (eV 0) (aN))))) (sSeq (sIf (Y.tB (Y.e2 oLt (eV 0) (eC (.int 3)))) (Y.sRaise "BadNumber" ["what", "number"] (aC (eC (.str "n")) (aC (eV 0) (aN)))) (sPass)) (sRet (eCall d_web_by (aC (eV 0) (aC (eFrz A) (aN))))))) [nD n] h = .ok (webD n ts) h := fun A e => by
    have l2 : oLt h (nD n) (.int 3) = some (.bl false) := by simp [oLt, nD]; omega
    simp [fnP, startD, sSeq, sExpr, sIf, sPass, sRet, Y.tB, Y.e2, eCall, eV, eC, aC, aN, eFrz, e, Rs.bind, Rs.out, nn, l2, ofO, wb, finP]
  exact key _ H1
theorem pairs_of {n : Nat} {ts : List (Nat × Nat)} (hn : 2 * n < 300) (mo : mulOk 2 (n : Int) = true)
    (H1 : compL (gT [gN 1, gN 2]) (Y.tB (Y.e2 oNe (Y.e2 oDiv (eV 1) (eC (.int 2))) (Y.e2 oDiv (eV 2) (eC (.int 2))))) (eTup (aC (eV 1) (aC (eV 2) (aN)))) [some (nD n), none, none] ((allOf (2 * n)).map tD) h = .ok (ts.map tD) h)
    (T : Ties (2 * n) ts) (hl : ts.length < 90000) : d_pairs_web [nD n] h = .ok (webD (2 * n) ts) h := by
  have nn : d_need_number [.str "n", nD n] h = .ok .non h := need_num
  have kw : d_Web [nD (2 * n), .tup (ts.map tD)] h = .ok (webD (2 * n) ts) h := Pg.web T (by omega) (by omega)
  have m2 : oMul h (.int 2) (nD n) = some (nD (2 * n)) := by simp [oMul, nD, mo]
  have ap := all_pairs (h := h) hn
  have u1 : unset [some (nD n), none, none] [1, 2] = [some (nD n), none, none] := rfl
  have sl : (ts.map tD).length ≤ 100000 := by rw [List.length_map]; omega
  have k1 : lComp (iA (eCall d_all_pairs (aC (Y.e2 oMul (eC (.int 2)) (eV 0)) (aN)))) (gT [gN 1, gN 2]) (Y.tB (Y.e2 oNe (Y.e2 oDiv (eV 1) (eC (.int 2))) (Y.e2 oDiv (eV 2) (eC (.int 2))))) (eTup (aC (eV 1) (aC (eV 2) (aN)))) [1, 2] [some (nD n), none, none] h = .ok (ts.map tD) h := by
    have i1 : iA (eCall d_all_pairs (aC (Y.e2 oMul (eC (.int 2)) (eV 0)) (aN))) [some (nD n), none, none] h = .ok ((allOf (2 * n)).map tD) h := by
      simp [iA, eCall, aC, aN, Y.e2, eC, eV, Rs.bind, m2, ofO, ap, seqOf, lstOf]
    simp only [lComp, i1, Rs.bind, u1, H1, Y.ll _ sl, if_true]
  have key : ∀ A : Lv, A [some (nD n), none, none] h = .ok (ts.map tD) h → fnP 3 (sSeq (sExpr (eCall d_need_number (aC (eC (.str "n")) (aC (eV 0) (aN))))) (sRet (eCall d_Web (aC (Y.e2 oMul (eC (.int 2)) (eV 0)) (aC (eB bTuple (aC (eFrz A) (aN))) (aN)))))) [nD n] h = .ok (webD (2 * n) ts) h := fun A e => by
    simp [fnP, startD, sSeq, sExpr, sRet, Y.e2, eB, eCall, eV, eC, aC, aN, eFrz, e, Rs.bind, Rs.out, nn, m2, bTuple, lstOf, ofO, kw, finP]
  exact key _ k1
theorem point_of {n k : Nat} {ts : List (Nat × Nat)} {s0 s1 s3 s5 s6 s7 s8 : Option D} {a b : D} {P : List D} (hk : h.length = k) (hP : P.length = n) (hn : n < 300)
    (H1 : b_u_law_point_web (startD 10 [a, b]) h = b_u_law_point_web_4 [s0, s1, some (.fl P), s3, some (.loc k), s5, s6, s7, s8, none] (h ++ [.lst (ts.map tD)]))
    (T : Ties n ts) (hl : ts.length < 90000) : d_u_law_point_web [a, b] h = .ok (webD n ts) h := by
  subst hk
  have g1 : (h ++ [Ob.lst (ts.map tD)])[h.length]? = some (.lst (ts.map tD)) := by simp
  have kw : d_Web [.int (P.length : Nat), .tup (ts.map tD)] (h ++ [.lst (ts.map tD)]) = .ok (webD n ts) (h ++ [.lst (ts.map tD)]) := by rw [hP]; exact Pg.web T (by omega) (by omega)
  have low : D.low h.length (webD n ts) = true := by simp [webD, D.low, D.lowL, low_ties, low_rows, nD]
  have e : b_u_law_point_web_4 [s0, s1, some (.fl P), s3, some (.loc h.length), s5, s6, s7, s8, none] (h ++ [.lst (ts.map tD)]) = .rt (webD n ts) (h ++ [.lst (ts.map tD)]) := by
    simp [b_u_law_point_web_4, sRet, eB, eCall, eV, aC, aN, Rs.bind, Rs.out, bLen, seqOf, bTuple, lstOf, g1, ofO, kw]
  unfold d_u_law_point_web fnP
  rw [H1, e]
  exact fin_app low

theorem ring5 : d_ring_web [.int 5] h = .ok (webD 5 [(0, 1), (0, 4), (1, 2), (2, 3), (3, 4)]) h := ring_of (n := 5) (ps := [(0, 1), (1, 2), (2, 3), (3, 4), (4, 0)]) (kvs := [([.inl 0, .inl 1], .bl true), ([.inl 1, .inl 2], .bl true), ([.inl 2, .inl 3], .bl true), ([.inl 3, .inl 4], .bl true), ([.inl 0, .inl 4], .bl true)]) (by decide) (by decide) (by kernel_rfl) (by kernel_rfl) (by kernel_rfl) (ties_of (by decide) (by decide)) (by decide)
theorem ring4 : d_ring_web [.int 4] h = .ok (webD 4 [(0, 1), (0, 3), (1, 2), (2, 3)]) h := ring_of (n := 4) (ps := [(0, 1), (1, 2), (2, 3), (3, 0)]) (kvs := [([.inl 0, .inl 1], .bl true), ([.inl 1, .inl 2], .bl true), ([.inl 2, .inl 3], .bl true), ([.inl 0, .inl 3], .bl true)]) (by decide) (by decide) (by kernel_rfl) (by kernel_rfl) (by kernel_rfl) (ties_of (by decide) (by decide)) (by decide)
theorem ring6 : d_ring_web [.int 6] h = .ok (webD 6 [(0, 1), (0, 5), (1, 2), (2, 3), (3, 4), (4, 5)]) h := ring_of (n := 6) (ps := [(0, 1), (1, 2), (2, 3), (3, 4), (4, 5), (5, 0)]) (kvs := [([.inl 0, .inl 1], .bl true), ([.inl 1, .inl 2], .bl true), ([.inl 2, .inl 3], .bl true), ([.inl 3, .inl 4], .bl true), ([.inl 4, .inl 5], .bl true), ([.inl 0, .inl 5], .bl true)]) (by decide) (by decide) (by kernel_rfl) (by kernel_rfl) (by kernel_rfl) (ties_of (by decide) (by decide)) (by decide)
theorem pairs3 : d_pairs_web [.int 3] h = .ok (webD 6 [(0, 2), (0, 3), (0, 4), (0, 5), (1, 2), (1, 3), (1, 4), (1, 5), (2, 4), (2, 5), (3, 4), (3, 5)]) h := pairs_of (n := 3) (by decide) (by decide) (by kernel_rfl) (ties_of (by decide +kernel) (by decide +kernel)) (by decide)
theorem pairs4 : d_pairs_web [.int 4] h = .ok (webD 8 [(0, 2), (0, 3), (0, 4), (0, 5), (0, 6), (0, 7), (1, 2), (1, 3), (1, 4), (1, 5), (1, 6), (1, 7), (2, 4), (2, 5), (2, 6), (2, 7), (3, 4), (3, 5), (3, 6), (3, 7), (4, 6), (4, 7), (5, 6), (5, 7)]) h := pairs_of (n := 4) (by decide) (by decide) (by kernel_rfl) (ties_of (by decide +kernel) (by decide +kernel)) (by decide)
def pointTf5 : List (Nat × Nat) := [(0, 1), (0, 2), (0, 3), (0, 4), (0, 5), (0, 6), (1, 2), (1, 3), (1, 4), (1, 7), (1, 8), (2, 3), (2, 5), (2, 7), (2, 9), (3, 6), (3, 8), (3, 9), (4, 5), (4, 6), (4, 7), (4, 8), (5, 6), (5, 7), (5, 9), (6, 8), (6, 9), (7, 8), (7, 9), (8, 9)]
def pointTf5P : List D := [.tup [.int 0, .int 1], .tup [.int 0, .int 2], .tup [.int 0, .int 3], .tup [.int 0, .int 4], .tup [.int 1, .int 2], .tup [.int 1, .int 3], .tup [.int 1, .int 4], .tup [.int 2, .int 3], .tup [.int 2, .int 4], .tup [.int 3, .int 4]]
theorem pointTf5T : Ties 10 pointTf5 := ties_of (by decide +kernel) (by decide +kernel)
theorem pointTf5_3 : d_u_law_point_web [.int 5, .bl false] [o, x, y] = .ok (webD 10 pointTf5) [o, x, y] := point_of (n := 10) (k := 3) (P := pointTf5P) (s0 := some (.int 5)) (s1 := some (.bl false)) (s3 := some (.int 4)) (s5 := some (.int 9)) (s6 := some (.int 9)) (s7 := some (.tup [.int 2, .int 4])) (s8 := some (.tup [.int 3, .int 4])) rfl (by decide +kernel) (by decide) (by kernel_rfl) pointTf5T (by decide +kernel)
theorem pointTf5_4 : d_u_law_point_web [.int 5, .bl false] [o, x, y, z] = .ok (webD 10 pointTf5) [o, x, y, z] := point_of (n := 10) (k := 4) (P := pointTf5P) (s0 := some (.int 5)) (s1 := some (.bl false)) (s3 := some (.int 4)) (s5 := some (.int 9)) (s6 := some (.int 9)) (s7 := some (.tup [.int 2, .int 4])) (s8 := some (.tup [.int 3, .int 4])) rfl (by decide +kernel) (by decide) (by kernel_rfl) pointTf5T (by decide +kernel)
def pointTt4 : List (Nat × Nat) := [(0, 1), (0, 2), (0, 3), (0, 4), (0, 8), (0, 12), (1, 2), (1, 3), (1, 5), (1, 9), (1, 13), (2, 3), (2, 6), (2, 10), (2, 14), (3, 7), (3, 11), (3, 15), (4, 5), (4, 6), (4, 7), (4, 8), (4, 12), (5, 6), (5, 7), (5, 9), (5, 13), (6, 7), (6, 10), (6, 14), (7, 11), (7, 15), (8, 9), (8, 10), (8, 11), (8, 12), (9, 10), (9, 11), (9, 13), (10, 11), (10, 14), (11, 15), (12, 13), (12, 14), (12, 15), (13, 14), (13, 15), (14, 15)]
def pointTt4P : List D := [.tup [.int 0, .int 0], .tup [.int 0, .int 1], .tup [.int 0, .int 2], .tup [.int 0, .int 3], .tup [.int 1, .int 0], .tup [.int 1, .int 1], .tup [.int 1, .int 2], .tup [.int 1, .int 3], .tup [.int 2, .int 0], .tup [.int 2, .int 1], .tup [.int 2, .int 2], .tup [.int 2, .int 3], .tup [.int 3, .int 0], .tup [.int 3, .int 1], .tup [.int 3, .int 2], .tup [.int 3, .int 3]]
theorem pointTt4T : Ties 16 pointTt4 := ties_of (by decide +kernel) (by decide +kernel)
theorem pointTt4_3 : d_u_law_point_web [.int 4, .bl true] [o, x, y] = .ok (webD 16 pointTt4) [o, x, y] := point_of (n := 16) (k := 3) (P := pointTt4P) (s0 := some (.int 4)) (s1 := some (.bl true)) (s3 := some (.int 3)) (s5 := some (.int 15)) (s6 := some (.int 15)) (s7 := some (.tup [.int 3, .int 2])) (s8 := some (.tup [.int 3, .int 3])) rfl (by decide +kernel) (by decide) (by kernel_rfl) pointTt4T (by decide +kernel)
theorem pointTt4_4 : d_u_law_point_web [.int 4, .bl true] [o, x, y, z] = .ok (webD 16 pointTt4) [o, x, y, z] := point_of (n := 16) (k := 4) (P := pointTt4P) (s0 := some (.int 4)) (s1 := some (.bl true)) (s3 := some (.int 3)) (s5 := some (.int 15)) (s6 := some (.int 15)) (s7 := some (.tup [.int 3, .int 2])) (s8 := some (.tup [.int 3, .int 3])) rfl (by decide +kernel) (by decide) (by kernel_rfl) pointTt4T (by decide +kernel)
def pointTt3 : List (Nat × Nat) := [(0, 1), (0, 2), (0, 3), (0, 6), (1, 2), (1, 4), (1, 7), (2, 5), (2, 8), (3, 4), (3, 5), (3, 6), (4, 5), (4, 7), (5, 8), (6, 7), (6, 8), (7, 8)]
def pointTt3P : List D := [.tup [.int 0, .int 0], .tup [.int 0, .int 1], .tup [.int 0, .int 2], .tup [.int 1, .int 0], .tup [.int 1, .int 1], .tup [.int 1, .int 2], .tup [.int 2, .int 0], .tup [.int 2, .int 1], .tup [.int 2, .int 2]]
theorem pointTt3T : Ties 9 pointTt3 := ties_of (by decide +kernel) (by decide +kernel)
theorem pointTt3_3 : d_u_law_point_web [.int 3, .bl true] [o, x, y] = .ok (webD 9 pointTt3) [o, x, y] := point_of (n := 9) (k := 3) (P := pointTt3P) (s0 := some (.int 3)) (s1 := some (.bl true)) (s3 := some (.int 2)) (s5 := some (.int 8)) (s6 := some (.int 8)) (s7 := some (.tup [.int 2, .int 1])) (s8 := some (.tup [.int 2, .int 2])) rfl (by decide +kernel) (by decide) (by kernel_rfl) pointTt3T (by decide +kernel)
theorem pointTt3_4 : d_u_law_point_web [.int 3, .bl true] [o, x, y, z] = .ok (webD 9 pointTt3) [o, x, y, z] := point_of (n := 9) (k := 4) (P := pointTt3P) (s0 := some (.int 3)) (s1 := some (.bl true)) (s3 := some (.int 2)) (s5 := some (.int 8)) (s6 := some (.int 8)) (s7 := some (.tup [.int 2, .int 1])) (s8 := some (.tup [.int 2, .int 2])) rfl (by decide +kernel) (by decide) (by kernel_rfl) pointTt3T (by decide +kernel)
def pointTf6 : List (Nat × Nat) := [(0, 1), (0, 2), (0, 3), (0, 4), (0, 5), (0, 6), (0, 7), (0, 8), (1, 2), (1, 3), (1, 4), (1, 5), (1, 9), (1, 10), (1, 11), (2, 3), (2, 4), (2, 6), (2, 9), (2, 12), (2, 13), (3, 4), (3, 7), (3, 10), (3, 12), (3, 14), (4, 8), (4, 11), (4, 13), (4, 14), (5, 6), (5, 7), (5, 8), (5, 9), (5, 10), (5, 11), (6, 7), (6, 8), (6, 9), (6, 12), (6, 13), (7, 8), (7, 10), (7, 12), (7, 14), (8, 11), (8, 13), (8, 14), (9, 10), (9, 11), (9, 12), (9, 13), (10, 11), (10, 12), (10, 14), (11, 13), (11, 14), (12, 13), (12, 14), (13, 14)]
def pointTf6P : List D := [.tup [.int 0, .int 1], .tup [.int 0, .int 2], .tup [.int 0, .int 3], .tup [.int 0, .int 4], .tup [.int 0, .int 5], .tup [.int 1, .int 2], .tup [.int 1, .int 3], .tup [.int 1, .int 4], .tup [.int 1, .int 5], .tup [.int 2, .int 3], .tup [.int 2, .int 4], .tup [.int 2, .int 5], .tup [.int 3, .int 4], .tup [.int 3, .int 5], .tup [.int 4, .int 5]]
theorem pointTf6T : Ties 15 pointTf6 := ties_of (by decide +kernel) (by decide +kernel)
theorem pointTf6_3 : d_u_law_point_web [.int 6, .bl false] [o, x, y] = .ok (webD 15 pointTf6) [o, x, y] := point_of (n := 15) (k := 3) (P := pointTf6P) (s0 := some (.int 6)) (s1 := some (.bl false)) (s3 := some (.int 5)) (s5 := some (.int 14)) (s6 := some (.int 14)) (s7 := some (.tup [.int 3, .int 5])) (s8 := some (.tup [.int 4, .int 5])) rfl (by decide +kernel) (by decide) (by kernel_rfl) pointTf6T (by decide +kernel)
theorem pointTf6_4 : d_u_law_point_web [.int 6, .bl false] [o, x, y, z] = .ok (webD 15 pointTf6) [o, x, y, z] := point_of (n := 15) (k := 4) (P := pointTf6P) (s0 := some (.int 6)) (s1 := some (.bl false)) (s3 := some (.int 5)) (s5 := some (.int 14)) (s6 := some (.int 14)) (s7 := some (.tup [.int 3, .int 5])) (s8 := some (.tup [.int 4, .int 5])) rfl (by decide +kernel) (by decide) (by kernel_rfl) pointTf6T (by decide +kernel)
end
end L25
end

section
set_option Elab.async false
set_option linter.all false
set_option maxRecDepth 100000
set_option maxHeartbeats 1000000
/-! X8: texts of answers, tuples compared, ties sorted. -/
namespace L25
open PySem Y L2
open Pg (row comm cmn deg pairsOf wrongOf unevenD small_nat mem_pairs Ties lt2)
section
variable {h : Hm} {n p q : Nat} {ts : List (Nat × Nat)}
theorem rep_ok {x : D} (hx : (match py [] x with | some p => SeqAt.shaped p && decide (wid p ≤ line) | none => false) = true) (hp : py h x = py [] x) : ∃ r, bRepr h [x] = some (.str r) := by
  show ∃ r, (match py h x with | some p => if (SeqAt.shaped p && decide (wid p ≤ line)) = true then some (D.str p.shown) else none | none => none) = some (.str r)
  rw [hp]
  cases e : py [] x with
  | none => rw [e] at hx; cases hx
  | some p =>
    rw [e] at hx
    simp only at hx ⊢
    rw [if_pos hx]
    exact ⟨_, rfl⟩
theorem uneven_rep {n : Nat} {ts : List (Nat × Nat)} (hn : n ≤ 16) : ∃ r, bRepr h [Pg.unevenD n ts] = some (.str r) := by
  have one : ∀ p : Nat, p ≤ 16 → ∃ r, bRepr h [.tup [.str "degree", nD p]] = some (.str r) := fun p hp => by
    refine rep_ok ?_ (by simp [py, pyL, nD])
    have : ∀ m : Fin 17, (match py [] (.tup [.str "degree", nD m.val]) with | some p => SeqAt.shaped p && decide (wid p ≤ line) | none => false) = true := by decide +kernel
    exact this ⟨p, by omega⟩
  have two : ∀ (b : Bool) (t : Nat × Nat), t.1 < t.2 → t.2 < n → ∃ r, bRepr h [.tup [.str (if b then "tied" else "untied"), tD t]] = some (.str r) := fun b t h1 h2 => by
    refine rep_ok ?_ (by simp [py, pyL, nD, tD])
    have : ∀ (b : Bool) (p q : Fin 17), (match py [] (.tup [.str (if b then "tied" else "untied"), tD (p.val, q.val)]) with | some p => SeqAt.shaped p && decide (wid p ≤ line) | none => false) = true := by decide +kernel
    exact this b ⟨t.1, by omega⟩ ⟨t.2, by omega⟩
  have wr : ∀ (b : Bool) (t : Nat × Nat), Pg.wrongOf n ts b = some t → t.1 < t.2 ∧ t.2 < n := fun b t e => by
    unfold Pg.wrongOf at e
    split at e
    · cases e
    · have m := Pg.mem_pairs.mp (List.mem_of_find?_eq_some e)
      exact ⟨m.1, m.2.1⟩
  unfold unevenD
  split
  · exact one 0 (by omega)
  · cases e1 : (List.range n).find? fun p => decide (deg n ts p ≠ deg n ts 0) with
    | some p => exact one p (by have := List.mem_range.mp (List.mem_of_find?_eq_some e1); omega)
    | none =>
      cases e2 : wrongOf n ts true with
      | some t => exact two true t (wr _ _ e2).1 (wr _ _ e2).2
      | none =>
        cases e3 : wrongOf n ts false with
        | some t => exact two false t (wr _ _ e3).1 (wr _ _ e3).2
        | none => exact rep_ok (by decide +kernel) (by simp [py])
/-- rows of small numbers -/
theorem wid_nat {x : Nat} (hx : x < 1000000) : wid (.int (x : Nat)) = 61 := by
  have : (x : Int).natAbs < 10 ^ 60 := by
    have : (1000000 : Nat) < 10 ^ 60 := by decide
    omega
  rw [wid, if_pos this]
theorem widL_nat : ∀ r : List Nat, (∀ x ∈ r, x < 1000000) → widL (r.map fun (x : Nat) => PyData.int x) = r.length * 63
  | [], _ => rfl
  | x :: r, h => by
    rw [List.map_cons, widL, wid_nat (h x List.mem_cons_self), widL_nat r fun y m => h y (List.mem_cons_of_mem _ m), List.length_cons]
    omega
theorem row_rep {r : List Nat} (hr : ∀ x ∈ r, x < 1000000) (hl : r.length < 1000) : ∃ s, bRepr h [rowN r] = some (.str s) := by
  have e : ∀ h, py h (rowN r) = some (.tuple (r.map fun (x : Nat) => PyData.int x)) := fun h => by simp [rowN, py, pyL_nD]
  have sh : SeqAt.shaped (.tuple (r.map fun (x : Nat) => PyData.int x)) = true := by simp [SeqAt.shaped, PyData.canLay0, PyData.depth, can_nD, dep_nD]
  have w : wid (.tuple (r.map fun (x : Nat) => PyData.int x)) ≤ line := by
    rw [wid, widL_nat r hr]
    have : 100000 ≤ line := by decide
    omega
  refine rep_ok ?_ (by rw [e, e])
  rw [e]
  simp [sh, w]
def rowsP (rs : List (List Nat)) : List PyData := rs.map fun r => .tuple (r.map fun (x : Nat) => PyData.int x)
theorem rows_rep {rs : List (List Nat)} (hr : ∀ r ∈ rs, r.length ≤ 20 ∧ ∀ x ∈ r, x < 1000000) (hl : rs.length ≤ 20) : ∃ s, bRepr h [.tup (rs.map rowN)] = some (.str s) := by
  have pl : ∀ (h : Hm) (rs : List (List Nat)), pyL h (rs.map rowN) = some (rowsP rs) := fun h rs => by
    induction rs with
    | nil => rfl
    | cons r rs ih => simp [pyL, rowN, py, pyL_nD, rowsP] at ih ⊢; simp [ih]
  have e : ∀ h, py h (.tup (rs.map rowN)) = some (.tuple (rowsP rs)) := fun h => by simp [py, pl]
  have cn : ∀ rs : List (List Nat), PyData.canLayAll0 (rowsP rs) = true := fun rs => by
    induction rs with
    | nil => rfl
    | cons r rs ih => simp [rowsP, PyData.canLayAll0, PyData.canLay0, can_nD] at ih ⊢; exact ih
  have dp : ∀ rs : List (List Nat), PyData.depthAll (rowsP rs) ≤ 1 := fun rs => by
    induction rs with
    | nil => simp [rowsP, PyData.depthAll]
    | cons r rs ih => simp [rowsP, PyData.depthAll, PyData.depth, dep_nD] at ih ⊢; omega
  have wd : ∀ rs : List (List Nat), (∀ r ∈ rs, r.length ≤ 20 ∧ ∀ x ∈ r, x < 1000000) → widL (rowsP rs) ≤ rs.length * 1265 := fun rs hr => by
    induction rs with
    | nil => simp [rowsP, widL]
    | cons r rs ih =>
      have i := ih fun r m => hr r (List.mem_cons_of_mem _ m)
      have z := hr r List.mem_cons_self
      simp only [rowsP, List.map_cons, widL, wid, List.length_cons] at i ⊢
      rw [widL_nat r z.2]
      omega
  have sh : SeqAt.shaped (.tuple (rowsP rs)) = true := by
    have := dp rs
    simp [SeqAt.shaped, PyData.canLay0, PyData.depth, cn]
    omega
  have w : wid (.tuple (rowsP rs)) ≤ line := by
    have := wd rs hr
    have : 100000 ≤ line := by decide
    rw [wid]
    omega
  refine rep_ok ?_ (by rw [e, e])
  rw [e]
  simp [sh, w]
/-! ### tuples -/
theorem py_t (t : Nat × Nat) : py h (tD t) = some (.tuple [.int (t.1 : Nat), .int (t.2 : Nat)]) := by simp [tD, nD, py, pyL]
theorem sh_t (t : Nat × Nat) : SeqAt.shaped (.tuple [.int (t.1 : Nat), .int (t.2 : Nat)]) = true := by simp [SeqAt.shaped, PyData.canLay0, PyData.canLayAll0, PyData.depth, PyData.depthAll]
theorem eqv_t (s t : Nat × Nat) : PyData.eqv (.tuple [.int (s.1 : Nat), .int (s.2 : Nat)]) (.tuple [.int (t.1 : Nat), .int (t.2 : Nat)]) = decide (s = t) := by
  obtain ⟨a, b⟩ := s
  obtain ⟨c, d⟩ := t
  by_cases h1 : a = c
  · by_cases h2 : b = d
    · subst h1 h2; simp [PyData.eqv, PyData.eqvAll]
    · have : ¬ (b : Int) = d := by omega
      simp [PyData.eqv, PyData.eqvAll, h2]; try omega
  · have : ¬ (a : Int) = c := by omega
    simp [PyData.eqv, PyData.eqvAll, h1]; try omega
theorem ne_t (s t : Nat × Nat) : oNe h (tD s) (tD t) = some (.bl (decide (s ≠ t))) := by
  have : eqD h (tD s) (tD t) = some (decide (s = t)) := by
    show (match py h (tD s), py h (tD t) with | some a, some b => if SeqAt.shaped a && SeqAt.shaped b then some (PyData.eqv a b) else none | _, _ => none) = _
    simp only [py_t, sh_t, Bool.and_self, if_true, eqv_t]
  rw [oNe, this]
  simp
theorem pyL_t : ∀ r : List (Nat × Nat), pyL h (r.map tD) = some (r.map fun t => .tuple [.int (t.1 : Nat), .int (t.2 : Nat)])
  | [] => rfl
  | t :: r => by simp [pyL, py_t, pyL_t r]
theorem sh_ts (r : List (Nat × Nat)) : SeqAt.shaped (.list (r.map fun t => .tuple [.int (t.1 : Nat), .int (t.2 : Nat)])) = true := by
  have cn : PyData.canLayAll0 (r.map fun t => .tuple [.int (t.1 : Nat), .int (t.2 : Nat)]) = true := by
    induction r with
    | nil => rfl
    | cons t r ih => simp [PyData.canLayAll0, PyData.canLay0, ih]
  have dp : PyData.depthAll (r.map fun t => .tuple [.int (t.1 : Nat), .int (t.2 : Nat)]) ≤ 1 := by
    clear cn
    induction r with
    | nil => simp [PyData.depthAll]
    | cons t r ih => simp only [List.map_cons, PyData.depthAll, PyData.depth]; omega
  simp [SeqAt.shaped, PyData.canLay0, PyData.depth, cn]
  omega
theorem any_t (x : Nat × Nat) : ∀ r : List (Nat × Nat), ((r.map fun t => PyData.tuple [.int (t.1 : Nat), .int (t.2 : Nat)]).any fun z => PyData.eqv z (.tuple [.int (x.1 : Nat), .int (x.2 : Nat)])) = decide (x ∈ r)
  | [] => rfl
  | y :: r => by
    rw [List.map_cons, List.any_cons, any_t x r, eqv_t]
    by_cases e : y = x
    · subst e; simp
    · have : ¬ x = y := fun c => e c.symm
      simp [e, this]
theorem in_held {d : D} (hd : Held h d ts) (x : Nat × Nat) : oIn h (tD x) d = some (.bl (decide (x ∈ ts))) := by
  have : inD h (tD x) d = some (decide (x ∈ ts)) := by
    rcases hd with rfl | ⟨k, rfl, hk⟩
    · simp only [inD, dctOf, dtuOf, seqOf, lstOf, py_t, pyL_t, sh_t, sh_ts, Bool.and_self, if_true, any_t]
    · simp only [inD, dctOf, dtuOf, seqOf, lstOf, hk, py_t, pyL_t, sh_t, sh_ts, Bool.and_self, if_true, any_t]
  rw [oIn, this]; rfl
/-! ### sorting -/
theorem insB_map {α β : Type} (f : α → β) (le : β → β → Bool) (x : α) : ∀ l : List α, insB le (f x) (l.map f) = (insB (fun a b => le (f a) (f b)) x l).map f
  | [] => rfl
  | y :: l => by
    simp only [List.map_cons, insB]
    split
    · rfl
    · rw [insB_map f le x l]; rfl
theorem isort_map {α β : Type} (f : α → β) (le : β → β → Bool) : ∀ l : List α, isort le (l.map f) = (isort (fun a b => le (f a) (f b)) l).map f
  | [] => rfl
  | x :: l => by rw [List.map_cons, isort, isort_map f le l, insB_map, isort]
def tI (t : Nat × Nat) : List Int := [(t.1 : Nat), (t.2 : Nat)]
theorem row_tI (t : Nat × Nat) : rowD (tI t) = tD t := rfl
theorem rows_t : ∀ r : List (Nat × Nat), rowsOf (r.map tD) = some (r.map tI)
  | [] => rfl
  | t :: r => by
    have e : rowsOf (tD t :: r.map tD) = match intsOf [nD t.1, nD t.2], rowsOf (r.map tD) with
      | some a, some b => if a.isEmpty then none else some (a :: b)
      | _, _ => none := rfl
    rw [List.map_cons, e, rows_t r]
    rfl
theorem tI_le (s t : Nat × Nat) : tI s ≤ tI t ↔ s.1 < t.1 ∨ (s.1 = t.1 ∧ s.2 ≤ t.2) := by
  simp [tI, List.cons_le_cons_iff]
  omega
theorem sort_t {U : List (Nat × Nat)} (nd : U.Nodup) (ok : ∀ t ∈ U, t.1 < t.2 ∧ t.2 < n) : ∃ S, sortD (U.map tD) = some (S.map tD) ∧ S.Perm U ∧ Ties n S := by
  refine ⟨isort (fun a b => decide (tI a ≤ tI b)) U, ?_, isort_perm _ U, ?_, ?_⟩
  · cases U with
    | nil => rfl
    | cons t U =>
      have e : intsOf ((t :: U).map tD) = none := rfl
      rw [sortD, e]
      simp only [rows_t]
      rw [rowsL, isort_map, List.map_map]
      rfl
  · intro t m
    exact ok t ((isort_perm _ U).mem_iff.mp m)
  · have s1 : (isort (fun a b => decide (tI a ≤ tI b)) U).Pairwise fun a b => decide (tI a ≤ tI b) = true := isort_sorted (fun a b c h1 h2 => by
      simp only [decide_eq_true_eq, tI_le] at *; omega) (fun a b => by simp only [Bool.or_eq_true, decide_eq_true_eq, tI_le]; omega) U
    have s2 : (isort (fun a b => decide (tI a ≤ tI b)) U).Nodup := (isort_perm _ U).nodup_iff.mpr nd
    refine (s1.and s2).imp fun {a b} h => ?_
    obtain ⟨h1, h2⟩ := h
    simp only [decide_eq_true_eq, tI_le] at h1
    rcases h1 with h1 | ⟨h1, h3⟩
    · exact .inl h1
    · rcases Nat.lt_or_ge a.2 b.2 with h4 | h4
      · exact .inr ⟨h1, h4⟩
      · exact absurd (Prod.ext h1 (by omega)) h2
theorem sort_2 {a b : Nat} : sortD [nD a, nD b] = some [nD (min a b), nD (max a b)] := by
  have e : intsOf [nD a, nD b] = some [(a : Int), (b : Int)] := rfl
  rw [sortD, e]
  by_cases c : a ≤ b
  · have : (a : Int) ≤ b := by omega
    simp [intsL, isort, insB, this, nD, Nat.min_eq_left c, Nat.max_eq_right c]
  · have h1 : ¬ (a : Int) ≤ b := by omega
    have h2 : b ≤ a := by omega
    simp [intsL, isort, insB, h1, nD, Nat.min_eq_right h2, Nat.max_eq_left h2, c]
end
end L25
end

section
set_option Elab.async false
set_option linter.all false
set_option maxRecDepth 100000
set_option maxHeartbeats 1000000
/-! X9: a lap of the law, its web. -/
namespace L25
open PySem Y L2
open Pg (row comm cmn deg pairsOf wrongOf unevenD small_nat mem_pairs Ties lt2 webD fld_p fld_t fld_n)
abbrev vL (s0 s2 s3 s4 s5 s6 s7 s8 s9 s10 s11 s12 s13 s14 s15 s16 s17 s18 s19 s20 s21 : Option D) : Sl := [s0, some (.loc 0), s2, s3, s4, s5, s6, s7, s8, s9, s10, s11, s12, s13, s14, s15, s16, s17, s18, s19, s20, s21, none, none, none]
section
variable {o : Ob} {t : Hm} {N n : Nat} {lap : Int} {s0 s2 s3 s4 s5 s6 s7 s8 s9 s10 s11 s12 s13 s14 s15 s16 s17 s18 s19 s20 s21 : Option D}
theorem pen_of {u : Hm} (hp : PenAt [o] 0 N) : PenAt (o :: u) 0 N := Pg.pen_any hp
theorem stepA (hp : PenAt [o] 0 (N + 200)) : ∃ n ts o', b_law_l1 (vL s0 s2 s3 s4 s5 s6 s7 s8 s9 s10 s11 s12 s13 s14 s15 s16 s17 s18 s19 s20 s21) (o :: t) = b_law_l1_2 (vL s0 s2 (some (nD n)) (some (webD n ts)) s5 s6 s7 s8 s9 s10 s11 s12 s13 s14 s15 s16 s17 s18 s19 s20 s21) (o' :: t) ∧ Ties n ts ∧ 0 < n ∧ n ≤ 16 ∧ ts.length ≤ 200 ∧ PenAt [o'] 0 N := by
  obtain ⟨r, o1, e1, r0, r1, h1⟩ := Pg.drawT (t := t) dr (N := N + 199) hp (many := 8) (by decide) (by decide)
  obtain ⟨n, hn⟩ : ∃ n : Nat, (n : Int) = 1 + r := ⟨(1 + r).toNat, by omega⟩
  have n8 : n ≤ 8 := by omega
  have nn : n * n ≤ 8 * 8 := Nat.mul_le_mul n8 n8
  obtain ⟨ts, o2, e2, T, l2, h2⟩ := Pg.ties_ok (F := d_u_law_draw) (t := t) (N := N) dr (n := n) (by omega) (h1.mono (by omega))
  have e2' : d_u_law_ties [.loc 0, nD n] (o1 :: t) = .ok (.tup (ts.map tD)) (o2 :: t) := e2
  have kw : d_Web [nD n, .tup (ts.map tD)] (o2 :: t) = .ok (webD n ts) (o2 :: t) := Pg.web T (by omega) (by omega)
  refine ⟨n, ts, o2, ?_, T, by omega, by omega, by omega, h2⟩
  have k0 : (.int (1 + r) : D) = nD n := by rw [nD, hn]
  simp only [b_law_l1, b_law_l1_1, vL, sSeq, sAsg, Y.e2, eCall, aC, aN, eV, eC, List.getElem?_cons_zero, List.getElem?_cons_succ, Rs.bind, Rs.out, e1, oAdd, ofO, gN, outO, List.set_cons_succ, List.set_cons_zero, k0, e2', kw]
/-- what the law draws from -/
structure Told (h : Hm) : Prop where
  a : d_u_law_point_web [.int 5, .bl false] h = .ok (webD 10 pointTf5) h
  b : d_u_law_point_web [.int 4, .bl true] h = .ok (webD 16 pointTt4) h
  c : d_u_law_point_web [.int 3, .bl true] h = .ok (webD 9 pointTt3) h
  d : d_u_law_point_web [.int 6, .bl false] h = .ok (webD 15 pointTf6) h
theorem told3 {x y : Ob} : Told [o, x, y] := ⟨pointTf5_3, pointTt4_3, pointTt3_3, pointTf6_3⟩
theorem told4 {x y z : Ob} : Told [o, x, y, z] := ⟨pointTf5_4, pointTt4_4, pointTt3_4, pointTf6_4⟩
def r5 : List (Nat × Nat) := [(0, 1), (0, 4), (1, 2), (2, 3), (3, 4)]
def r4 : List (Nat × Nat) := [(0, 1), (0, 3), (1, 2), (2, 3)]
def r6 : List (Nat × Nat) := [(0, 1), (0, 5), (1, 2), (2, 3), (3, 4), (4, 5)]
def p3 : List (Nat × Nat) := [(0, 2), (0, 3), (0, 4), (0, 5), (1, 2), (1, 3), (1, 4), (1, 5), (2, 4), (2, 5), (3, 4), (3, 5)]
def p4 : List (Nat × Nat) := [(0, 2), (0, 3), (0, 4), (0, 5), (0, 6), (0, 7), (1, 2), (1, 3), (1, 4), (1, 5), (1, 6), (1, 7), (2, 4), (2, 5), (2, 6), (2, 7), (3, 4), (3, 5), (3, 6), (3, 7), (4, 6), (4, 7), (5, 6), (5, 7)]
def nine : List D := [webD 5 r5, webD 4 r4, webD 6 r6, webD 6 p3, webD 8 p4, webD 10 pointTf5, webD 16 pointTt4, webD 9 pointTt3, webD 15 pointTf6]
theorem nine_ok {x : D} (hx : x ∈ nine) : ∃ n ts, x = webD n ts ∧ Ties n ts ∧ 0 < n ∧ n ≤ 16 ∧ ts.length ≤ 200 := by
  simp only [nine, List.mem_cons, List.not_mem_nil, or_false] at hx
  rcases hx with rfl | rfl | rfl | rfl | rfl | rfl | rfl | rfl | rfl
  · exact ⟨_, _, rfl, ties_of (by decide +kernel) (by decide +kernel), by decide, by decide, by decide +kernel⟩
  · exact ⟨_, _, rfl, ties_of (by decide +kernel) (by decide +kernel), by decide, by decide, by decide +kernel⟩
  · exact ⟨_, _, rfl, ties_of (by decide +kernel) (by decide +kernel), by decide, by decide, by decide +kernel⟩
  · exact ⟨_, _, rfl, ties_of (by decide +kernel) (by decide +kernel), by decide, by decide, by decide +kernel⟩
  · exact ⟨_, _, rfl, ties_of (by decide +kernel) (by decide +kernel), by decide, by decide, by decide +kernel⟩
  · exact ⟨_, _, rfl, pointTf5T, by decide, by decide, by decide +kernel⟩
  · exact ⟨_, _, rfl, pointTt4T, by decide, by decide, by decide +kernel⟩
  · exact ⟨_, _, rfl, pointTt3T, by decide, by decide, by decide +kernel⟩
  · exact ⟨_, _, rfl, pointTf6T, by decide, by decide, by decide +kernel⟩
theorem stepB {ts : List (Nat × Nat)} (T : Ties n ts) (n0 : 0 < n) (hn : n ≤ 16) (hl : ts.length ≤ 200) (hlap : lap ≤ 1 ∨ ∀ o, Told (o :: t)) (hp : PenAt [o] 0 (N + 1)) :
    ∃ n' ts' s5' o', b_law_l1_2 (vL s0 (some (.int lap)) (some (nD n)) (some (webD n ts)) s5 s6 s7 s8 s9 s10 s11 s12 s13 s14 s15 s16 s17 s18 s19 s20 s21) (o :: t) = b_law_l1_3 (vL s0 (some (.int lap)) (some (nD n)) (some (webD n' ts')) s5' s6 s7 s8 s9 s10 s11 s12 s13 s14 s15 s16 s17 s18 s19 s20 s21) (o' :: t) ∧ Ties n' ts' ∧ 0 < n' ∧ n' ≤ 16 ∧ ts'.length ≤ 200 ∧ PenAt [o'] 0 N := by
  by_cases c : 1 < lap
  · have K : Told (o :: t) := (hlap.resolve_left (by omega)) o
    obtain ⟨x, o', e, hx, hq⟩ := pick (F := d_u_law_draw) dr (h := o :: t) (k := 0) (n := N) (pen_of hp) (d := .fl nine) (xs := nine) (.inl rfl) (by decide) (by decide)
    have e' : d_u_law_pick [.loc 0, .fl nine] (o :: t) = .ok x (o' :: t) := e
    obtain ⟨n', ts', rfl, T', a1, a2, a3⟩ := nine_ok hx
    refine ⟨n', ts', some (.fl nine), o', ?_, T', a1, a2, a3, Pg.pen_any (t := t) hq⟩
    have q1 : d_ring_web [.int 5] (o :: t) = .ok (webD 5 r5) (o :: t) := ring5
    have q2 : d_ring_web [.int 4] (o :: t) = .ok (webD 4 r4) (o :: t) := ring4
    have q3 : d_ring_web [.int 6] (o :: t) = .ok (webD 6 r6) (o :: t) := ring6
    have q4 : d_pairs_web [.int 3] (o :: t) = .ok (webD 6 p3) (o :: t) := pairs3
    have q5 : d_pairs_web [.int 4] (o :: t) = .ok (webD 8 p4) (o :: t) := pairs4
    have l6 : ([webD 5 r5, webD 4 r4, webD 6 r6, webD 6 p3, webD 8 p4, webD 10 pointTf5].length ≤ line) = True := Y.ll _ (by simp)
    have l3 : ([webD 16 pointTt4, webD 9 pointTt3, webD 15 pointTf6].length ≤ line) = True := Y.ll _ (by simp)
    have l9 : ([webD 5 r5, webD 4 r4, webD 6 r6, webD 6 p3, webD 8 p4, webD 10 pointTf5].length + [webD 16 pointTt4, webD 9 pointTt3, webD 15 pointTf6].length ≤ line) = True := Y.ll _ (by simp)
    have a9 : oAdd (o :: t) (.fl [webD 5 r5, webD 4 r4, webD 6 r6, webD 6 p3, webD 8 p4, webD 10 pointTf5]) (.fl [webD 16 pointTt4, webD 9 pointTt3, webD 15 pointTf6]) = some (.fl nine) := by
      simp only [oAdd, ownL, l9, if_true]; rfl
    have gt : decide ((1 : Int) < lap) = true := decide_eq_true c
    simp only [b_law_l1_2, vL, sSeq, sIf, Y.tB, sAsg, Y.e2, eFrz, lLst, eCall, aC, aN, eV, eC, List.getElem?_cons_zero, List.getElem?_cons_succ, Rs.bind, Rs.out, oGt, gt, ofO, gN, outO, List.set_cons_succ, List.set_cons_zero, if_true, q1, q2, q3, q4, q5, K.a, K.b, K.c, K.d, l6, l3, a9, e']
  · have gt : decide ((1 : Int) < lap) = false := decide_eq_false c
    refine ⟨n, ts, s5, o, ?_, T, n0, hn, hl, hp.mono (by omega)⟩
    simp only [b_law_l1_2, vL, sSeq, sIf, sPass, Y.tB, Y.e2, eV, eC, List.getElem?_cons_zero, List.getElem?_cons_succ, Rs.bind, Rs.out, oGt, gt, ofO, Bool.false_eq_true, if_false]
/-! ### names -/
theorem perm_nat {ys : List D} (h : ys.Perm ((List.range n).map nD)) : ∃ ns : List Nat, ys = ns.map nD ∧ ns.Perm (List.range n) := by
  have : ∀ {ys xs : List D}, ys.Perm xs → ∀ l : List Nat, xs = l.map nD → ∃ ns : List Nat, ys = ns.map nD ∧ ns.Perm l := fun {ys xs} p => by
    induction p with
    | nil => intro l e; cases l with | nil => exact ⟨[], rfl, .nil⟩ | cons _ _ => cases e
    | cons x _ ih =>
      intro l e
      cases l with
      | nil => cases e
      | cons a l =>
        simp only [List.map_cons, List.cons.injEq] at e
        obtain ⟨ns, e1, p1⟩ := ih l e.2
        exact ⟨a :: ns, by rw [e1, e.1]; rfl, p1.cons a⟩
    | swap x y l' =>
      intro l e
      cases l with
      | nil => cases e
      | cons a l =>
        cases l with
        | nil => cases e
        | cons b l =>
          simp only [List.map_cons, List.cons.injEq] at e
          exact ⟨b :: a :: l, by simp [e.1, e.2.1, e.2.2], .swap _ _ _⟩
    | trans _ _ ih1 ih2 =>
      intro l e
      obtain ⟨n2, e2, p2⟩ := ih2 l e
      obtain ⟨n1, e1, p1⟩ := ih1 n2 e2
      exact ⟨n1, e1, p1.trans p2⟩
  exact this h _ rfl
theorem mixed_range (hn : n ≤ 16) (hp : PenAt [o] 0 (N + 16)) : ∃ (ns : List Nat) (o' : Ob), lCall d_u_law_mixed (aC (eV 1) (aC (eFrz (lRng1 (eV 3))) (aN))) (vL s0 s2 (some (nD n)) s4 s5 s6 s7 s8 s9 s10 s11 s12 s13 s14 s15 s16 s17 s18 s19 s20 s21) (o :: t) = .ok (ns.map nD) (o' :: t) ∧ ns.Perm (List.range n) ∧ PenAt [o'] 0 N := by
  obtain ⟨ys, o', e, p, h⟩ := mixed (t := t) (o := o) (N := N) (xs := (List.range n).map nD) (by simp; omega) (low_ints _ _) (hp.mono (by simp; omega))
  obtain ⟨ns, rfl, p2⟩ := perm_nat p
  refine ⟨ns, o', ?_, p2, h⟩
  simp only [lCall, vL, aC, aN, eV, eFrz, lRng1, List.getElem?_cons_zero, List.getElem?_cons_succ, Rs.bind, rng1 (show n < 300 by omega), ofO, e]
theorem stepD {ts : List (Nat × Nat)} (hn : n ≤ 16) (hp : PenAt [o] 0 (N + 16)) : ∃ (ns : List Nat) (o' : Ob), b_law_l1_3 (vL s0 s2 s3 (some (webD n ts)) s5 s6 s7 s8 s9 s10 s11 s12 s13 s14 s15 s16 s17 s18 s19 s20 s21) (o :: t) = b_law_l1_5 (vL s0 s2 (some (nD n)) (some (webD n ts)) s5 (some (.fl (ns.map nD))) (some (.loc (t.length + 1))) s8 s9 s10 s11 s12 s13 s14 s15 s16 s17 s18 s19 s20 s21) (o' :: (t ++ [.lst []])) ∧ ns.Perm (List.range n) ∧ PenAt [o'] 0 N := by
  obtain ⟨ns, o', e, p, h⟩ := mixed_range (t := t) (n := n) (N := N) (o := o) (s0 := s0) (s2 := s2) (s4 := some (webD n ts)) (s5 := s5) (s6 := s6) (s7 := s7) (s8 := s8) (s9 := s9) (s10 := s10) (s11 := s11) (s12 := s12) (s13 := s13) (s14 := s14) (s15 := s15) (s16 := s16) (s17 := s17) (s18 := s18) (s19 := s19) (s20 := s20) (s21 := s21) hn hp
  refine ⟨ns, o', ?_, p, h⟩
  have k0 : b_law_l1_3 (vL s0 s2 s3 (some (webD n ts)) s5 s6 s7 s8 s9 s10 s11 s12 s13 s14 s15 s16 s17 s18 s19 s20 s21) (o :: t) = b_law_l1_4 (vL s0 s2 (some (nD n)) (some (webD n ts)) s5 s6 s7 s8 s9 s10 s11 s12 s13 s14 s15 s16 s17 s18 s19 s20 s21) (o :: t) := by
    simp only [b_law_l1_3, vL, sSeq, sAsg, Y.e1, eV, List.getElem?_cons_zero, List.getElem?_cons_succ, Rs.bind, Rs.out, fld_p, ofO, gN, outO, List.set_cons_succ, List.set_cons_zero]
  have key : ∀ A : Lv, A (vL s0 s2 (some (nD n)) (some (webD n ts)) s5 s6 s7 s8 s9 s10 s11 s12 s13 s14 s15 s16 s17 s18 s19 s20 s21) (o :: t) = .ok (ns.map nD) (o' :: t) → sPar 6 7 (aC (eFrz A) (aC (eMut (lLst (aN))) aN)) (vL s0 s2 (some (nD n)) (some (webD n ts)) s5 s6 s7 s8 s9 s10 s11 s12 s13 s14 s15 s16 s17 s18 s19 s20 s21) (o :: t) = .nx (vL s0 s2 (some (nD n)) (some (webD n ts)) s5 (some (.fl (ns.map nD))) (some (.loc (t.length + 1))) s8 s9 s10 s11 s12 s13 s14 s15 s16 s17 s18 s19 s20 s21) (o' :: (t ++ [.lst []])) := fun A e => by
    simp only [sPar, aC, aN, eFrz, e, eMut, lLst, Rs.bind, Rs.out, List.length_nil, Y.ll 0 (by decide), if_true, List.length_cons, List.cons_append, vL, List.set_cons_succ, List.set_cons_zero]
  rw [k0]
  unfold b_law_l1_4 sSeq
  rw [key _ e]
/-! ### ties, otherwise named -/
def mm (ns : List Nat) (t : Nat × Nat) : Nat × Nat := (min (ns.getD t.1 0) (ns.getD t.2 0), max (ns.getD t.1 0) (ns.getD t.2 0))
theorem getD_at {ns : List Nat} {i : Nat} (hi : i < ns.length) : ns.getD i 0 = ns[i] := by simp [List.getD, hi]
theorem names_at {h : Hm} {ns : List Nat} {p : Nat} (hp : p < ns.length) : oIx h (.fl (ns.map nD)) (nD p) = some (nD (ns.getD p 0)) := by
  rw [nD, Y.ix_fl, List.getElem?_map, List.getElem?_eq_getElem hp, getD_at hp]; rfl
theorem min_n {h : Hm} {a b : Nat} : bMin2 h [nD a, nD b] = some (nD (min a b)) := by
  simp only [bMin2, nD]
  congr 2
  split <;> omega
theorem max_n {h : Hm} {a b : Nat} : bMax2 h [nD a, nD b] = some (nD (max a b)) := by
  simp only [bMax2, nD]
  congr 2
  split <;> omega
theorem l2_one {ns : List Nat} {acc : List (Nat × Nat)} {u : Nat × Nat} (h1 : u.1 < ns.length) (h2 : u.2 < ns.length) (hl : acc.length < 100000) :
    b_law_l2 (vL s0 s2 s3 s4 s5 (some (.fl (ns.map nD))) (some (.loc (t.length + 1))) (some (nD u.1)) (some (nD u.2)) s10 s11 s12 s13 s14 s15 s16 s17 s18 s19 s20 s21) (o :: (t ++ [.lst (acc.map tD)])) =
      .nx (vL s0 s2 s3 s4 s5 (some (.fl (ns.map nD))) (some (.loc (t.length + 1))) (some (nD u.1)) (some (nD u.2)) (some (nD (ns.getD u.1 0))) (some (nD (ns.getD u.2 0))) s12 s13 s14 s15 s16 s17 s18 s19 s20 s21) (o :: (t ++ [.lst ((acc ++ [mm ns u]).map tD)])) := by
  have l1 : acc.length < line := Nat.lt_of_lt_of_le hl (by decide)
  have g1 : (t ++ [Ob.lst (acc.map tD)])[t.length]? = some (.lst (acc.map tD)) := by simp
  have g2 : (t ++ [Ob.lst (acc.map tD)]).set t.length (.lst (acc.map tD ++ [tD (mm ns u)])) = t ++ [.lst ((acc ++ [mm ns u]).map tD)] := by simp
  have l2 : ((2 : Nat) ≤ line) = True := Y.ll 2 (by decide)
  have k0 : sAsg (gT [gN 10, gN 11]) (eTup (aC (Y.e2 oIx (eV 6) (eV 8)) (aC (Y.e2 oIx (eV 6) (eV 9)) (aN)))) (vL s0 s2 s3 s4 s5 (some (.fl (ns.map nD))) (some (.loc (t.length + 1))) (some (nD u.1)) (some (nD u.2)) s10 s11 s12 s13 s14 s15 s16 s17 s18 s19 s20 s21) (o :: (t ++ [.lst (acc.map tD)])) =
      .nx (vL s0 s2 s3 s4 s5 (some (.fl (ns.map nD))) (some (.loc (t.length + 1))) (some (nD u.1)) (some (nD u.2)) (some (nD (ns.getD u.1 0))) (some (nD (ns.getD u.2 0))) s12 s13 s14 s15 s16 s17 s18 s19 s20 s21) (o :: (t ++ [.lst (acc.map tD)])) := by
    simp only [sAsg, eTup, aC, aN, Y.e2, eV, vL, List.getElem?_cons_zero, List.getElem?_cons_succ, Rs.bind, Rs.out, names_at h1, names_at h2, ofO, List.length_cons, List.length_nil, l2, if_true, gT, gTs, gN, outO, List.set_cons_succ, List.set_cons_zero]
    try rfl
  have k1 : b_law_l2_1 (vL s0 s2 s3 s4 s5 (some (.fl (ns.map nD))) (some (.loc (t.length + 1))) (some (nD u.1)) (some (nD u.2)) (some (nD (ns.getD u.1 0))) (some (nD (ns.getD u.2 0))) s12 s13 s14 s15 s16 s17 s18 s19 s20 s21) (o :: (t ++ [.lst (acc.map tD)])) =
      .nx (vL s0 s2 s3 s4 s5 (some (.fl (ns.map nD))) (some (.loc (t.length + 1))) (some (nD u.1)) (some (nD u.2)) (some (nD (ns.getD u.1 0))) (some (nD (ns.getD u.2 0))) s12 s13 s14 s15 s16 s17 s18 s19 s20 s21) (o :: (t ++ [.lst ((acc ++ [mm ns u]).map tD)])) := by
    have tm : (.tup [nD (min (ns.getD u.1 0) (ns.getD u.2 0)), nD (max (ns.getD u.1 0) (ns.getD u.2 0))] : D) = tD (mm ns u) := rfl
    simp only [b_law_l2_1, sApp, eTup, eB, aC, aN, eV, vL, List.getElem?_cons_zero, List.getElem?_cons_succ, Rs.bind, Rs.out, isLst, g1, if_true, min_n, max_n, ofO, List.length_cons, List.length_nil, l2, appD, List.length_map, l1, tm, List.set_cons_succ, g2]
  unfold b_law_l2 sSeq
  rw [k0]
  exact k1
theorem l2_loop {ns : List Nat} : ∀ (ts acc : List (Nat × Nat)) (s8 s9 s10 s11 : Option D), (∀ u ∈ ts, u.1 < ns.length ∧ u.2 < ns.length) → acc.length + ts.length < 100000 → ∃ s8' s9' s10' s11',
    forL (gT [gN 8, gN 9]) b_law_l2 (ts.map tD) (vL s0 s2 s3 s4 s5 (some (.fl (ns.map nD))) (some (.loc (t.length + 1))) s8 s9 s10 s11 s12 s13 s14 s15 s16 s17 s18 s19 s20 s21) (o :: (t ++ [.lst (acc.map tD)])) =
      .nx (vL s0 s2 s3 s4 s5 (some (.fl (ns.map nD))) (some (.loc (t.length + 1))) s8' s9' s10' s11' s12 s13 s14 s15 s16 s17 s18 s19 s20 s21) (o :: (t ++ [.lst ((acc ++ ts.map (mm ns)).map tD)]))
  | [], acc, s8, s9, s10, s11, _, _ => ⟨s8, s9, s10, s11, by simp [forL]⟩
  | u :: ts, acc, s8, s9, s10, s11, hu, hl => by
    obtain ⟨h1, h2⟩ := hu u List.mem_cons_self
    simp only [List.length_cons] at hl
    have e1 := l2_one (o := o) (t := t) (s0 := s0) (s2 := s2) (s3 := s3) (s4 := s4) (s5 := s5) (s10 := s10) (s11 := s11) (s12 := s12) (s13 := s13) (s14 := s14) (s15 := s15) (s16 := s16) (s17 := s17) (s18 := s18) (s19 := s19) (s20 := s20) (s21 := s21) (acc := acc) h1 h2 (by omega)
    obtain ⟨a, b, c, d, e2⟩ := l2_loop ts (acc ++ [mm ns u]) (some (nD u.1)) (some (nD u.2)) (some (nD (ns.getD u.1 0))) (some (nD (ns.getD u.2 0))) (fun v m => hu v (List.mem_cons_of_mem _ m)) (by simp; omega)
    refine ⟨a, b, c, d, ?_⟩
    have g0 : gT [gN 8, gN 9] (tD u) (vL s0 s2 s3 s4 s5 (some (.fl (ns.map nD))) (some (.loc (t.length + 1))) s8 s9 s10 s11 s12 s13 s14 s15 s16 s17 s18 s19 s20 s21) = some (vL s0 s2 s3 s4 s5 (some (.fl (ns.map nD))) (some (.loc (t.length + 1))) (some (nD u.1)) (some (nD u.2)) s10 s11 s12 s13 s14 s15 s16 s17 s18 s19 s20 s21) := by simp [gT, gTs, gN, tD]
    rw [List.map_cons, forL, g0]
    simp only [e1]
    rw [e2]
    simp
/-- a list of distinct ties -/
structure Bag (n : Nat) (U : List (Nat × Nat)) : Prop where
  ok : ∀ u ∈ U, u.1 < u.2 ∧ u.2 < n
  nd : U.Nodup
theorem getD_inj {ns : List Nat} (nd : ns.Nodup) {i j : Nat} (hi : i < ns.length) (hj : j < ns.length) (e : ns.getD i 0 = ns.getD j 0) : i = j := by
  rw [getD_at hi, getD_at hj] at e
  have z := List.pairwise_iff_getElem.mp nd
  rcases Nat.lt_trichotomy i j with h | h | h
  · exact absurd e (z i j hi hj h)
  · exact h
  · exact absurd e.symm (z j i hj hi h)
theorem mm_bag {ns : List Nat} {ts : List (Nat × Nat)} (p : ns.Perm (List.range n)) (T : Ties n ts) : Bag n (ts.map (mm ns)) := by
  have nl : ns.length = n := by rw [p.length_eq, List.length_range]
  have nd : ns.Nodup := p.nodup_iff.mpr List.nodup_range
  have lt : ∀ i, i < n → ns.getD i 0 < n := fun i hi => by
    rw [getD_at (by omega)]
    exact List.mem_range.mp (p.mem_iff.mp (List.getElem_mem _))
  constructor
  · intro u hu
    obtain ⟨v, hv, rfl⟩ := List.mem_map.mp hu
    obtain ⟨h1, h2⟩ := T.ok v hv
    have ne : ns.getD v.1 0 ≠ ns.getD v.2 0 := fun c => by have := getD_inj nd (by omega) (by omega) c; omega
    have l1 := lt v.1 (by omega)
    have l2 := lt v.2 h2
    simp only [mm]
    omega
  · unfold List.Nodup
    rw [List.pairwise_map]
    refine T.nd.imp_of_mem fun {a b} ha hb hne e => hne ?_
    obtain ⟨a1, a2⟩ := T.ok a ha
    obtain ⟨b1, b2⟩ := T.ok b hb
    have e1 := congrArg Prod.fst e
    have e2 := congrArg Prod.snd e
    simp only [mm] at e1 e2
    have : (ns.getD a.1 0 = ns.getD b.1 0 ∧ ns.getD a.2 0 = ns.getD b.2 0) ∨ (ns.getD a.1 0 = ns.getD b.2 0 ∧ ns.getD a.2 0 = ns.getD b.1 0) := by omega
    rcases this with ⟨c1, c2⟩ | ⟨c1, c2⟩
    · exact Prod.ext (getD_inj nd (by omega) (by omega) c1) (getD_inj nd (by omega) (by omega) c2)
    · have := getD_inj nd (by omega) (by omega) c1
      have := getD_inj nd (by omega) (by omega) c2
      omega
theorem stepE {ns : List Nat} {ts : List (Nat × Nat)} (p : ns.Perm (List.range n)) (T : Ties n ts) (hl : ts.length ≤ 200) : ∃ U s8' s9' s10' s11', b_law_l1_5 (vL s0 s2 (some (nD n)) (some (webD n ts)) s5 (some (.fl (ns.map nD))) (some (.loc (t.length + 1))) s8 s9 s10 s11 s12 s13 s14 s15 s16 s17 s18 s19 s20 s21) (o :: (t ++ [.lst []])) =
    b_law_l1_6 (vL s0 s2 (some (nD n)) (some (webD n ts)) s5 (some (.fl (ns.map nD))) (some (.loc (t.length + 1))) s8' s9' s10' s11' s12 s13 s14 s15 s16 s17 s18 s19 s20 s21) (o :: (t ++ [.lst (U.map tD)])) ∧ Bag n U ∧ U.length ≤ 200 := by
  have nl : ns.length = n := by rw [p.length_eq, List.length_range]
  obtain ⟨a, b, c, d, e⟩ := l2_loop (o := o) (t := t) (s0 := s0) (s2 := s2) (s3 := some (nD n)) (s4 := some (webD n ts)) (s5 := s5) (s12 := s12) (s13 := s13) (s14 := s14) (s15 := s15) (s16 := s16) (s17 := s17) (s18 := s18) (s19 := s19) (s20 := s20) (s21 := s21) (ns := ns) ts [] s8 s9 s10 s11 (fun u m => by have := T.ok u m; omega) (by simp; omega)
  refine ⟨ts.map (mm ns), a, b, c, d, ?_, mm_bag p T, by simpa using hl⟩
  have i1 : iA (Y.e1 (oFld "Web" "ties") (eV 4)) (vL s0 s2 (some (nD n)) (some (webD n ts)) s5 (some (.fl (ns.map nD))) (some (.loc (t.length + 1))) s8 s9 s10 s11 s12 s13 s14 s15 s16 s17 s18 s19 s20 s21) (o :: (t ++ [.lst []])) = .ok (ts.map tD) (o :: (t ++ [.lst []])) := by
    simp [iA, Y.e1, eV, Rs.bind, fld_t, ofO]
  unfold b_law_l1_5 sSeq sFor
  rw [i1]
  simp only [Rs.out]
  have e' := e
  simp only [List.map_nil, List.nil_append] at e'
  rw [e']
end
end L25
end

section
set_option Elab.async false
set_option linter.all false
set_option maxRecDepth 100000
set_option maxHeartbeats 1000000
/-! X10: a lap of the law, its tests. -/
namespace L25
open PySem Y L2
open Pg (row comm cmn deg pairsOf wrongOf unevenD small_nat mem_pairs Ties lt2 webD fld_p fld_t fld_n)
section
variable {o : Ob} {t : Hm} {N n : Nat} {h : Hm} {s0 s2 s3 s4 s5 s6 s7 s8 s9 s10 s11 s12 s13 s14 s15 s16 s17 s18 s19 s20 s21 : Option D}
theorem compG_fm {α : Type} {G : Hm → Bool} {g : Gv} {c : Tv} {e : Ev} {σ : Sl} {h : Hm} (hG : G h = true) (T : α → D) (p : α → Bool) (F : α → D) : ∀ xs : List α, (∀ x ∈ xs, ∃ σ1, g (T x) σ = some σ1 ∧ c σ1 h = .ok (p x) h ∧ (p x = true → e σ1 h = .ok (F x) h)) →
    compG G g c e σ (xs.map T) h = .ok ((xs.filter p).map F) h
  | [], _ => by simp [compG, hG]
  | x :: xs, H => by
    obtain ⟨σ1, e1, e2, e3⟩ := H x List.mem_cons_self
    have ih := compG_fm hG T p F xs fun y m => H y (List.mem_cons_of_mem _ m)
    cases hp : p x with
    | true => simp [compG, hG, e1, e2, hp, e3 hp, Rs.bindN, ih]
    | false => simp [compG, hG, e1, e2, hp, Rs.bindN, ih]
theorem cut2 (a b : D) (r : List D) : cutD (a :: b :: r) none (some 2) = [a, b] := by
  have : HT.sIx (a :: b :: r).length (a :: b :: r).length (some 2) = 2 := by
    rw [show (some (2 : Int)) = some ((2 : Nat) : Int) from rfl, HT.sIx_nat, List.length_cons, List.length_cons]
    omega
  unfold cutD
  rw [this, HT.sIx_none]
  rfl
theorem toggle {U : List (Nat × Nat)} {s : Nat × Nat} (B : Bag n U) (h1 : s.1 < s.2) (h2 : s.2 < n) : Bag n (U.filter (fun u => decide (u ≠ s)) ++ if s ∈ U then [] else [s]) := by
  constructor
  · intro u m
    rcases List.mem_append.mp m with m | m
    · exact B.ok u (List.mem_filter.mp m).1
    · split at m
      · cases m
      · rw [List.mem_singleton] at m; subst m; exact ⟨h1, h2⟩
  · unfold List.Nodup
    rw [List.pairwise_append]
    refine ⟨B.nd.sublist List.filter_sublist, ?_, ?_⟩
    · split <;> simp
    · intro a ha b hb
      split at hb
      · cases hb
      · rw [List.mem_singleton] at hb
        subst hb
        have := (List.mem_filter.mp ha).2
        simpa using this
theorem stepF {U : List (Nat × Nat)} (B : Bag n U) (hn : n ≤ 16) (hU : U.length ≤ 200) (hp : PenAt [o] 0 (N + 17)) : ∃ U' d7 s10' s11' o', b_law_l1_6 (vL s0 s2 (some (nD n)) s4 s5 s6 (some (.loc (t.length + 1))) s8 s9 s10 s11 s12 s13 s14 s15 s16 s17 s18 s19 s20 s21) (o :: (t ++ [.lst (U.map tD)])) =
    b_law_l1_7 (vL s0 s2 (some (nD n)) s4 s5 s6 (some d7) s8 s9 s10' s11' s12 s13 s14 s15 s16 s17 s18 s19 s20 s21) (o' :: (t ++ [.lst (U.map tD)])) ∧ Bag n U' ∧ U'.length ≤ 201 ∧ Held (o' :: (t ++ [.lst (U.map tD)])) d7 U' ∧ PenAt [o'] 0 N := by
  obtain ⟨r, o1, e1, r0, r1, h1⟩ := Pg.drawT (t := t ++ [.lst (U.map tD)]) dr (N := N + 16) hp (many := 3) (by decide) (by decide)
  have hd : ∀ o : Ob, Held (o :: (t ++ [.lst (U.map tD)])) (.loc (t.length + 1)) U := fun o => .inr ⟨_, rfl, Pg.last_get⟩
  have c0 : Y.tAnd (Y.tB (Y.e2 oEq (eCall d_u_law_draw (aC (eV 1) (aC (eC (.int 3)) (aN)))) (eC (.int 0)))) (Y.tB (Y.e2 oGt (eV 3) (eC (.int 1)))) (vL s0 s2 (some (nD n)) s4 s5 s6 (some (.loc (t.length + 1))) s8 s9 s10 s11 s12 s13 s14 s15 s16 s17 s18 s19 s20 s21) (o :: (t ++ [.lst (U.map tD)])) = .ok (decide (r = 0) && decide (1 < n)) (o1 :: (t ++ [.lst (U.map tD)])) := by
    have g : oGt (o1 :: (t ++ [.lst (U.map tD)])) (nD n) (.int 1) = some (.bl (decide (1 < n))) := by simp [oGt, nD]; omega
    by_cases c : r = 0
    · simp [Y.tAnd, Y.tB, Y.e2, eCall, aC, aN, eV, eC, vL, Rs.bind, e1, oEq, eqD, ofO, c, g]
    · simp [Y.tAnd, Y.tB, Y.e2, eCall, aC, aN, eV, eC, vL, Rs.bind, e1, oEq, eqD, ofO, c]
  by_cases c : r = 0 ∧ 1 < n
  · obtain ⟨ns, o2, e2, p, h2⟩ := mixed_range (t := t ++ [.lst (U.map tD)]) (n := n) (N := N) (o := o1) (s0 := s0) (s2 := s2) (s4 := s4) (s5 := s5) (s6 := s6) (s7 := some (.loc (t.length + 1))) (s8 := s8) (s9 := s9) (s10 := s10) (s11 := s11) (s12 := s12) (s13 := s13) (s14 := s14) (s15 := s15) (s16 := s16) (s17 := s17) (s18 := s18) (s19 := s19) (s20 := s20) (s21 := s21) hn h1
    have nl : ns.length = n := by rw [p.length_eq, List.length_range]
    obtain ⟨a, b, rest, en⟩ : ∃ a b rest, ns = a :: b :: rest := by
      match ns, nl with
      | [], z => simp at z; omega
      | [_], z => simp at z; omega
      | a :: b :: rest, _ => exact ⟨a, b, rest, rfl⟩
    subst en
    have nd := p.nodup_iff.mpr List.nodup_range
    have ne : a ≠ b := by
      have := List.nodup_cons.mp nd
      intro z; subst z; simp at this
    have la : a < n := List.mem_range.mp (p.mem_iff.mp (by simp))
    have lb : b < n := List.mem_range.mp (p.mem_iff.mp (by simp))
    obtain ⟨s, es1, es2⟩ : ∃ s : Nat × Nat, s.1 = min a b ∧ s.2 = max a b := ⟨(min a b, max a b), rfl, rfl⟩
    have l1 : s.1 < s.2 := by omega
    have l2 : s.2 < n := by omega
    have k1 : sAsg (gTL [gN 10, gN 11]) (eFrz (lB mSortA (aC (eSl (eFrz (lCall d_u_law_mixed (aC (eV 1) (aC (eFrz (lRng1 (eV 3))) (aN))))) (oN) (oS (eC (.int 2)))) (aN)))) (vL s0 s2 (some (nD n)) s4 s5 s6 (some (.loc (t.length + 1))) s8 s9 s10 s11 s12 s13 s14 s15 s16 s17 s18 s19 s20 s21) (o1 :: (t ++ [.lst (U.map tD)])) =
        .nx (vL s0 s2 (some (nD n)) s4 s5 s6 (some (.loc (t.length + 1))) s8 s9 (some (nD s.1)) (some (nD s.2)) s12 s13 s14 s15 s16 s17 s18 s19 s20 s21) (o2 :: (t ++ [.lst (U.map tD)])) := by
      have key : ∀ A : Lv, A (vL s0 s2 (some (nD n)) s4 s5 s6 (some (.loc (t.length + 1))) s8 s9 s10 s11 s12 s13 s14 s15 s16 s17 s18 s19 s20 s21) (o1 :: (t ++ [.lst (U.map tD)])) = .ok ((a :: b :: rest).map nD) (o2 :: (t ++ [.lst (U.map tD)])) → sAsg (gTL [gN 10, gN 11]) (eFrz (lB mSortA (aC (eSl (eFrz A) (oN) (oS (eC (.int 2)))) (aN)))) (vL s0 s2 (some (nD n)) s4 s5 s6 (some (.loc (t.length + 1))) s8 s9 s10 s11 s12 s13 s14 s15 s16 s17 s18 s19 s20 s21) (o1 :: (t ++ [.lst (U.map tD)])) =
          .nx (vL s0 s2 (some (nD n)) s4 s5 s6 (some (.loc (t.length + 1))) s8 s9 (some (nD s.1)) (some (nD s.2)) s12 s13 s14 s15 s16 s17 s18 s19 s20 s21) (o2 :: (t ++ [.lst (U.map tD)])) := fun A e => by
        have sr : ∀ hh : Hm, mSortA hh [.fl [nD a, nD b]] = some [nD s.1, nD s.2] := fun hh => by
          rw [es1, es2]
          exact sort_2
        simp only [sAsg, eFrz, lB, aC, aN, eSl, oN, oS, eC, e, Rs.bind, Rs.out, lstOf, List.map_cons, cut2, sr, ofO, gTL, gTs, gN]
        rfl
      exact key _ e2
    have k2 : sAsg (gN 7) (Y.e2 oAdd (eFrz (lCompX (iX (eV 7)) (gN 22) (Y.tB (Y.e2 oNe (eV 22) (eTup (aC (eV 10) (aC (eV 11) (aN)))))) (eV 22) [22])) (eIf (Y.tB (Y.e2 oIn (eTup (aC (eV 10) (aC (eV 11) (aN)))) (eV 7))) (eFrz (lLst (aN))) (eFrz (lLst (aC (eTup (aC (eV 10) (aC (eV 11) (aN)))) (aN)))))) (vL s0 s2 (some (nD n)) s4 s5 s6 (some (.loc (t.length + 1))) s8 s9 (some (nD s.1)) (some (nD s.2)) s12 s13 s14 s15 s16 s17 s18 s19 s20 s21) (o2 :: (t ++ [.lst (U.map tD)])) =
        .nx (vL s0 s2 (some (nD n)) s4 s5 s6 (some (.fl ((U.filter (fun u => decide (u ≠ s)) ++ if s ∈ U then [] else [s]).map tD))) s8 s9 (some (nD s.1)) (some (nD s.2)) s12 s13 s14 s15 s16 s17 s18 s19 s20 s21) (o2 :: (t ++ [.lst (U.map tD)])) := by
      have l2 : ((2 : Nat) ≤ line) = True := Y.ll 2 (by decide)
      have tm : (.tup [nD s.1, nD s.2] : D) = tD s := rfl
      have i1 : iX (eV 7) (vL s0 s2 (some (nD n)) s4 s5 s6 (some (.loc (t.length + 1))) s8 s9 (some (nD s.1)) (some (nD s.2)) s12 s13 s14 s15 s16 s17 s18 s19 s20 s21) (o2 :: (t ++ [.lst (U.map tD)])) = .ok (some (t.length + 1), U.map tD) (o2 :: (t ++ [.lst (U.map tD)])) := by
        have := Pg.last_get (o := o2) (t := t) (x := .lst (U.map tD))
        simp only [iX, eV, vL, List.getElem?_cons_zero, List.getElem?_cons_succ, Rs.bind]
        simp
      have gk : gd (some (t.length + 1)) (U.map tD) (o2 :: (t ++ [.lst (U.map tD)])) = true := by simp [gd]
      have cg := compG_fm (g := gN 22) (c := Y.tB (Y.e2 oNe (eV 22) (eTup (aC (eV 10) (aC (eV 11) (aN)))))) (e := eV 22) (σ := (vL s0 s2 (some (nD n)) s4 s5 s6 (some (.loc (t.length + 1))) s8 s9 (some (nD s.1)) (some (nD s.2)) s12 s13 s14 s15 s16 s17 s18 s19 s20 s21)) (h := o2 :: (t ++ [.lst (U.map tD)])) gk tD (fun u => decide (u ≠ s)) tD U fun u m => ⟨_, rfl, by
        simp only [Y.tB, Y.e2, eTup, aC, aN, eV, vL, List.set_cons_succ, List.set_cons_zero, List.getElem?_cons_zero, List.getElem?_cons_succ, Rs.bind, List.length_cons, List.length_nil, l2, if_true, tm, ne_t, ofO], fun _ => rfl⟩
      have fl : (U.filter fun u => decide (u ≠ s)).length ≤ U.length := List.length_filter_le _ _
      have q1 : lCompX (iX (eV 7)) (gN 22) (Y.tB (Y.e2 oNe (eV 22) (eTup (aC (eV 10) (aC (eV 11) (aN)))))) (eV 22) [22] (vL s0 s2 (some (nD n)) s4 s5 s6 (some (.loc (t.length + 1))) s8 s9 (some (nD s.1)) (some (nD s.2)) s12 s13 s14 s15 s16 s17 s18 s19 s20 s21) (o2 :: (t ++ [.lst (U.map tD)])) = .ok ((U.filter fun u => decide (u ≠ s)).map tD) (o2 :: (t ++ [.lst (U.map tD)])) := by
        have u0 : unset (vL s0 s2 (some (nD n)) s4 s5 s6 (some (.loc (t.length + 1))) s8 s9 (some (nD s.1)) (some (nD s.2)) s12 s13 s14 s15 s16 s17 s18 s19 s20 s21) [22] = (vL s0 s2 (some (nD n)) s4 s5 s6 (some (.loc (t.length + 1))) s8 s9 (some (nD s.1)) (some (nD s.2)) s12 s13 s14 s15 s16 s17 s18 s19 s20 s21) := rfl
        have lf : ((U.filter fun u => decide (u ≠ s)).map tD).length ≤ 100000 := by rw [List.length_map]; omega
        simp only [lCompX, i1, Rs.bind, u0, cg, Y.ll _ lf, if_true]
      have q2 : eIf (Y.tB (Y.e2 oIn (eTup (aC (eV 10) (aC (eV 11) (aN)))) (eV 7))) (eFrz (lLst (aN))) (eFrz (lLst (aC (eTup (aC (eV 10) (aC (eV 11) (aN)))) (aN)))) (vL s0 s2 (some (nD n)) s4 s5 s6 (some (.loc (t.length + 1))) s8 s9 (some (nD s.1)) (some (nD s.2)) s12 s13 s14 s15 s16 s17 s18 s19 s20 s21) (o2 :: (t ++ [.lst (U.map tD)])) = .ok (.fl ((if s ∈ U then [] else [s]).map tD)) (o2 :: (t ++ [.lst (U.map tD)])) := by
        have hi := in_held (hd o2) s
        have l0 : ((0 : Nat) ≤ line) = True := Y.ll 0 (by decide)
        have l1 : ((1 : Nat) ≤ line) = True := Y.ll 1 (by decide)
        simp only [eIf, Y.tB, Y.e2, eTup, aC, aN, eV, vL, List.getElem?_cons_zero, List.getElem?_cons_succ, Rs.bind, List.length_cons, List.length_nil, l2, if_true, tm, hi, ofO]
        by_cases m : s ∈ U
        · simp only [m, decide_true, if_true, eFrz, lLst, aN, Rs.bind, List.length_nil, l0, List.map_nil]
        · simp only [m, decide_false, Bool.false_eq_true, if_false, eFrz, lLst, aC, aN, eTup, eV, vL, List.getElem?_cons_zero, List.getElem?_cons_succ, Rs.bind, List.length_cons, List.length_nil, l2, if_true, tm, l1, List.map_cons, List.map_nil]
          try simp [l1]
      have lb : (((U.filter fun u => decide (u ≠ s)).map tD).length + ((if s ∈ U then [] else [s]).map tD).length ≤ line) = True := Y.ll _ (by
        have il : (if s ∈ U then [] else [s]).length ≤ 1 := by split <;> simp
        rw [List.length_map, List.length_map]
        omega)
      have q3 : ∀ (A : Lv) (Bv : Ev), A (vL s0 s2 (some (nD n)) s4 s5 s6 (some (.loc (t.length + 1))) s8 s9 (some (nD s.1)) (some (nD s.2)) s12 s13 s14 s15 s16 s17 s18 s19 s20 s21) (o2 :: (t ++ [.lst (U.map tD)])) = .ok ((U.filter fun u => decide (u ≠ s)).map tD) (o2 :: (t ++ [.lst (U.map tD)])) → Bv (vL s0 s2 (some (nD n)) s4 s5 s6 (some (.loc (t.length + 1))) s8 s9 (some (nD s.1)) (some (nD s.2)) s12 s13 s14 s15 s16 s17 s18 s19 s20 s21) (o2 :: (t ++ [.lst (U.map tD)])) = .ok (.fl ((if s ∈ U then [] else [s]).map tD)) (o2 :: (t ++ [.lst (U.map tD)])) →
          sAsg (gN 7) (Y.e2 oAdd (eFrz A) Bv) (vL s0 s2 (some (nD n)) s4 s5 s6 (some (.loc (t.length + 1))) s8 s9 (some (nD s.1)) (some (nD s.2)) s12 s13 s14 s15 s16 s17 s18 s19 s20 s21) (o2 :: (t ++ [.lst (U.map tD)])) = .nx (vL s0 s2 (some (nD n)) s4 s5 s6 (some (.fl ((U.filter (fun u => decide (u ≠ s)) ++ if s ∈ U then [] else [s]).map tD))) s8 s9 (some (nD s.1)) (some (nD s.2)) s12 s13 s14 s15 s16 s17 s18 s19 s20 s21) (o2 :: (t ++ [.lst (U.map tD)])) := fun A Bv ea eb => by
        simp only [sAsg, Y.e2, eFrz, ea, eb, Rs.bind, Rs.out, oAdd, ownL, lb, if_true, ofO, gN, outO, vL, List.set_cons_succ, List.set_cons_zero, List.map_append]
      exact q3 _ _ q1 q2
    refine ⟨U.filter (fun u => decide (u ≠ s)) ++ (if s ∈ U then [] else [s]), _, some (nD s.1), some (nD s.2), o2, ?_, toggle B l1 l2, ?_, .inl rfl, h2⟩
    · unfold b_law_l1_6 sSeq sIf
      rw [c0]
      simp only [Rs.out, c.1, c.2, decide_true, Bool.and_self, if_true, k1, k2]
    · have fl : (U.filter fun u => decide (u ≠ s)).length ≤ U.length := List.length_filter_le _ _
      have il : (if s ∈ U then [] else [s]).length ≤ 1 := by split <;> simp
      rw [List.length_append]
      omega
  · refine ⟨U, .loc (t.length + 1), s10, s11, o1, ?_, B, by omega, hd o1, h1.mono (by omega)⟩
    have cf : (decide (r = 0) && decide (1 < n)) = false := by
      cases e : (decide (r = 0) && decide (1 < n)) with
      | false => rfl
      | true => simp at e; exact absurd e c
    unfold b_law_l1_6 sSeq sIf
    rw [c0, cf]
    simp only [Rs.out, Bool.false_eq_true, if_false, sPass]
/-! ### the web -/
theorem stepG {U : List (Nat × Nat)} {d7 : D} (B : Bag n U) (hn : n ≤ 16) (hU : U.length ≤ 201) (hd : Held h d7 U) : ∃ S, b_law_l1_7 (vL s0 s2 (some (nD n)) s4 s5 s6 (some d7) s8 s9 s10 s11 s12 s13 s14 s15 s16 s17 s18 s19 s20 s21) h = b_law_l1_8 (vL s0 s2 (some (nD n)) (some (webD n S)) s5 s6 (some d7) s8 s9 s10 s11 s12 s13 s14 s15 s16 s17 s18 s19 s20 s21) h ∧ Ties n S ∧ S.Perm U := by
  obtain ⟨S, e, p, T⟩ := sort_t B.nd B.ok
  have hl : S.length ≤ 201 := by rw [p.length_eq]; exact hU
  have kw : d_Web [nD n, .tup (S.map tD)] h = .ok (webD n S) h := Pg.web T (by omega) (by omega)
  have ms : mSortA h [d7] = some (S.map tD) := by
    rcases hd with rfl | ⟨k, rfl, hk⟩
    · simp only [mSortA, keysD, dtuOf, Option.map_none, mSorted, lstOf, Option.bind_some, e]
    · simp only [mSortA, keysD, dtuOf, hk, Option.map_none, mSorted, lstOf, Option.bind_some, e]
  refine ⟨S, ?_, T, p⟩
  simp only [b_law_l1_7, vL, sSeq, sAsg, eCall, eB, eFrz, lB, aC, aN, eV, List.getElem?_cons_zero, List.getElem?_cons_succ, Rs.bind, Rs.out, ms, ofO, bTuple, lstOf, Option.map_some, kw, gN, outO, List.set_cons_succ, List.set_cons_zero]
theorem near_perm {U S : List (Nat × Nat)} (p : S.Perm U) : nearF n U = nearF n S := by
  have : Pg.adj U = Pg.adj S := by
    funext a b
    simp only [Pg.adj, p.mem_iff]
  simp only [nearF, Pg.nearOf, this]
theorem stepH {U S : List (Nat × Nat)} {d7 : D} (B : Bag n U) (n0 : 0 < n) (hn : n ≤ 16) (hU : U.length ≤ 201) (hd : Held h d7 U) (p : S.Perm U) : b_law_l1_8 (vL s0 s2 (some (nD n)) s4 s5 s6 (some d7) s8 s9 s10 s11 s12 s13 s14 s15 s16 s17 s18 s19 s20 s21) h = b_law_l1_10 (vL s0 s2 (some (nD n)) s4 s5 s6 (some d7) s8 s9 s10 s11 (some (nearF n S)) (some (unevenD n S)) s14 s15 s16 s17 s18 s19 s20 s21) h := by
  have e1 := law_near h hd B.nd B.ok (by omega) (by omega)
  rw [near_perm p] at e1
  have e2 := law_uneven (h := h) (n := n) (ts := S) n0 (by omega)
  simp only [b_law_l1_8, b_law_l1_9, vL, sSeq, sAsg, eCall, aC, aN, eV, List.getElem?_cons_zero, List.getElem?_cons_succ, Rs.bind, Rs.out, e1, e2, gN, outO, List.set_cons_succ, List.set_cons_zero]
theorem ne_str {x : Str} : oNe h (.str x) (.str x) = some (.bl false) := by simp [oNe, eqD]
theorem stepJ {S : List (Nat × Nat)} (hn : n ≤ 16) : b_law_l1_10 (vL s0 s2 s3 (some (webD n S)) s5 s6 s7 s8 s9 s10 s11 s12 (some (unevenD n S)) s14 s15 s16 s17 s18 s19 s20 s21) h = b_law_l1_11 (vL s0 s2 s3 (some (webD n S)) s5 s6 s7 s8 s9 s10 s11 s12 (some (unevenD n S)) s14 s15 s16 s17 s18 s19 s20 s21) h := by
  have e1 : d_uneven [webD n S] h = .ok (unevenD n S) h := Pg.uneven_ok (by omega)
  have e2 : d_is_even [webD n S] h = .ok (.bl (isN (unevenD n S))) h := Pg.even_ok (by omega)
  obtain ⟨r, hr⟩ := uneven_rep (h := h) (n := n) (ts := S) hn
  have e3 : ∀ b : Bool, d_u_law_is [.bl b, .bl b] h = .ok (.bl true) h := fun b => by
    cases b <;> simp [d_u_law_is, b_u_law_is, fnP, startD, sRet, eAnd, eIs, Y.e1, Y.e2, eV, Rs.bind, Rs.out, instD, oEq, eqD, ofO, finP]
  simp only [b_law_l1_10, vL, sSeq, sIf, sPass, Y.tOr, Y.tNot, Y.tT, Y.tB, Y.e2, eB, eCall, aC, aN, eV, eC, List.getElem?_cons_zero, List.getElem?_cons_succ, Rs.bind, Rs.out, e1, hr, ne_str, ofO, Bool.false_eq_true, if_false, e2, oIs, e3, truth, Bool.not_true]
/-! ### counts -/
def cntF (n : Nat) (S : List (Nat × Nat)) : D := .fl ((List.range n).map fun p => .fl ((List.range n).map fun q => nD (cmn n S (p, q))))
abbrev rngF (n : Nat) : D := .fl ((List.range n).map nD)
theorem stepK {S : List (Nat × Nat)} (hn : n ≤ 16) : b_law_l1_11 (vL s0 s2 (some (nD n)) s4 s5 s6 s7 s8 s9 s10 s11 (some (nearF n S)) s13 s14 s15 s16 s17 s18 s19 s20 s21) h = b_law_l1_13 (vL s0 s2 (some (nD n)) s4 s5 s6 s7 s8 s9 s10 s11 (some (nearF n S)) s13 (some (rngF n)) (some (cntF n S)) s16 s17 s18 s19 s20 s21) h := by
  have L : (n ≤ line) = True := Y.ll n (by omega)
  have k1 : b_law_l1_11 (vL s0 s2 (some (nD n)) s4 s5 s6 s7 s8 s9 s10 s11 (some (nearF n S)) s13 s14 s15 s16 s17 s18 s19 s20 s21) h = b_law_l1_12 (vL s0 s2 (some (nD n)) s4 s5 s6 s7 s8 s9 s10 s11 (some (nearF n S)) s13 (some (rngF n)) s15 s16 s17 s18 s19 s20 s21) h := by
    simp only [b_law_l1_11, vL, sSeq, sAsg, eFrz, lRng1, eV, List.getElem?_cons_zero, List.getElem?_cons_succ, Rs.bind, Rs.out, rng1 (show n < 300 by omega), ofO, gN, outO, List.set_cons_succ, List.set_cons_zero]
  have inner : ∀ (p : Nat), p < n → lComp (iA (eV 14)) (gN 9) Y.tYes (eB bLen (aC (eFrz (lComp (iA (Y.e2 oIx (eV 12) (eV 8))) (gN 23) (Y.tB (Y.e2 oIn (eV 23) (Y.e2 oIx (eV 12) (eV 9)))) (eV 23) [23])) (aN))) [9] (vL s0 s2 (some (nD n)) s4 s5 s6 s7 (some (nD p)) s9 s10 s11 (some (nearF n S)) s13 (some (rngF n)) s15 s16 s17 s18 s19 s20 s21) h = .ok ((List.range n).map fun q => nD (cmn n S (p, q))) h := fun p hp => by
    have el : ∀ q, q < n → eB bLen (aC (eFrz (lComp (iA (Y.e2 oIx (eV 12) (eV 8))) (gN 23) (Y.tB (Y.e2 oIn (eV 23) (Y.e2 oIx (eV 12) (eV 9)))) (eV 23) [23])) (aN)) (vL s0 s2 (some (nD n)) s4 s5 s6 s7 (some (nD p)) (some (nD q)) s10 s11 (some (nearF n S)) s13 (some (rngF n)) s15 s16 s17 s18 s19 s20 s21) h = .ok (nD (cmn n S (p, q))) h := fun q hq => by
      have k := commL (h := h) (n := n) (ts := S) (p := p) (q := q) (σ := (vL s0 s2 (some (nD n)) s4 s5 s6 s7 (some (nD p)) (some (nD q)) s10 s11 (some (nearF n S)) s13 (some (rngF n)) s15 s16 s17 s18 s19 s20 s21)) (a := 12) (ip := 8) (iq := 9) (r := 23) rfl rfl rfl (by decide) (by decide) (by decide) (by simp) hp hq (by omega)
      have key : ∀ A : Lv, A (vL s0 s2 (some (nD n)) s4 s5 s6 s7 (some (nD p)) (some (nD q)) s10 s11 (some (nearF n S)) s13 (some (rngF n)) s15 s16 s17 s18 s19 s20 s21) h = .ok ((comm n S p q).map nD) h → eB bLen (aC (eFrz A) (aN)) (vL s0 s2 (some (nD n)) s4 s5 s6 s7 (some (nD p)) (some (nD q)) s10 s11 (some (nearF n S)) s13 (some (rngF n)) s15 s16 s17 s18 s19 s20 s21) h = .ok (nD (cmn n S (p, q))) h := fun A e => by
        simp only [eB, aC, aN, eFrz, e, Rs.bind, bLen, seqOf, lstOf, Option.map_some, List.length_map, ofO]
        rfl
      exact key _ k
    have u0 : unset (vL s0 s2 (some (nD n)) s4 s5 s6 s7 (some (nD p)) s9 s10 s11 (some (nearF n S)) s13 (some (rngF n)) s15 s16 s17 s18 s19 s20 s21) [9] = (vL s0 s2 (some (nD n)) s4 s5 s6 s7 (some (nD p)) none s10 s11 (some (nearF n S)) s13 (some (rngF n)) s15 s16 s17 s18 s19 s20 s21) := rfl
    have i1 : iA (eV 14) (vL s0 s2 (some (nD n)) s4 s5 s6 s7 (some (nD p)) s9 s10 s11 (some (nearF n S)) s13 (some (rngF n)) s15 s16 s17 s18 s19 s20 s21) h = .ok ((List.range n).map nD) h := by
      simp [iA, eV, Rs.bind, seqOf, lstOf, ofO]
    have key : ∀ A : Ev, (∀ q, q < n → A (vL s0 s2 (some (nD n)) s4 s5 s6 s7 (some (nD p)) (some (nD q)) s10 s11 (some (nearF n S)) s13 (some (rngF n)) s15 s16 s17 s18 s19 s20 s21) h = .ok (nD (cmn n S (p, q))) h) → lComp (iA (eV 14)) (gN 9) Y.tYes A [9] (vL s0 s2 (some (nD n)) s4 s5 s6 s7 (some (nD p)) s9 s10 s11 (some (nearF n S)) s13 (some (rngF n)) s15 s16 s17 s18 s19 s20 s21) h = .ok ((List.range n).map fun q => nD (cmn n S (p, q))) h := fun A ha => by
      have c1 := compL_m (g := gN 9) (e := A) (σ := (vL s0 s2 (some (nD n)) s4 s5 s6 s7 (some (nD p)) none s10 s11 (some (nearF n S)) s13 (some (rngF n)) s15 s16 s17 s18 s19 s20 s21)) (h := h) nD (fun q => nD (cmn n S (p, q))) (List.range n) fun q m => ⟨_, rfl, ha q (List.mem_range.mp m)⟩
      unfold lComp
      rw [i1]
      simp only [Rs.bind, u0, c1, List.length_map, List.length_range, L, if_true]
    exact key _ el
  have outer : lComp (iA (eV 14)) (gN 8) Y.tYes (eFrz (lComp (iA (eV 14)) (gN 9) Y.tYes (eB bLen (aC (eFrz (lComp (iA (Y.e2 oIx (eV 12) (eV 8))) (gN 23) (Y.tB (Y.e2 oIn (eV 23) (Y.e2 oIx (eV 12) (eV 9)))) (eV 23) [23])) (aN))) [9])) [8] (vL s0 s2 (some (nD n)) s4 s5 s6 s7 s8 s9 s10 s11 (some (nearF n S)) s13 (some (rngF n)) s15 s16 s17 s18 s19 s20 s21) h = .ok ((List.range n).map fun p => .fl ((List.range n).map fun q => nD (cmn n S (p, q)))) h := by
    have key : ∀ A : Lv, (∀ p, p < n → A (vL s0 s2 (some (nD n)) s4 s5 s6 s7 (some (nD p)) s9 s10 s11 (some (nearF n S)) s13 (some (rngF n)) s15 s16 s17 s18 s19 s20 s21) h = .ok ((List.range n).map fun q => nD (cmn n S (p, q))) h) → lComp (iA (eV 14)) (gN 8) Y.tYes (eFrz A) [8] (vL s0 s2 (some (nD n)) s4 s5 s6 s7 s8 s9 s10 s11 (some (nearF n S)) s13 (some (rngF n)) s15 s16 s17 s18 s19 s20 s21) h = .ok ((List.range n).map fun p => .fl ((List.range n).map fun q => nD (cmn n S (p, q)))) h := fun A ha => by
      have c1 := compL_m (g := gN 8) (e := eFrz A) (σ := (vL s0 s2 (some (nD n)) s4 s5 s6 s7 none s9 s10 s11 (some (nearF n S)) s13 (some (rngF n)) s15 s16 s17 s18 s19 s20 s21)) (h := h) nD (fun p => .fl ((List.range n).map fun q => nD (cmn n S (p, q)))) (List.range n) fun p m => ⟨_, rfl, by
        have := ha p (List.mem_range.mp m)
        simp only [eFrz, vL, List.set_cons_succ, List.set_cons_zero] at this ⊢
        simp only [this, Rs.bind]⟩
      have u0 : unset (vL s0 s2 (some (nD n)) s4 s5 s6 s7 s8 s9 s10 s11 (some (nearF n S)) s13 (some (rngF n)) s15 s16 s17 s18 s19 s20 s21) [8] = (vL s0 s2 (some (nD n)) s4 s5 s6 s7 none s9 s10 s11 (some (nearF n S)) s13 (some (rngF n)) s15 s16 s17 s18 s19 s20 s21) := rfl
      have i1 : iA (eV 14) (vL s0 s2 (some (nD n)) s4 s5 s6 s7 s8 s9 s10 s11 (some (nearF n S)) s13 (some (rngF n)) s15 s16 s17 s18 s19 s20 s21) h = .ok ((List.range n).map nD) h := by
        simp [iA, eV, Rs.bind, seqOf, lstOf, ofO]
      unfold lComp
      rw [i1]
      simp only [Rs.bind, u0, c1, List.length_map, List.length_range, L, if_true]
    exact key _ inner
  rw [k1]
  have key : ∀ A : Lv, A (vL s0 s2 (some (nD n)) s4 s5 s6 s7 s8 s9 s10 s11 (some (nearF n S)) s13 (some (rngF n)) s15 s16 s17 s18 s19 s20 s21) h = .ok ((List.range n).map fun p => .fl ((List.range n).map fun q => nD (cmn n S (p, q)))) h → sSeq (sAsg (gN 15) (eFrz A)) b_law_l1_13 (vL s0 s2 (some (nD n)) s4 s5 s6 s7 s8 s9 s10 s11 (some (nearF n S)) s13 (some (rngF n)) s15 s16 s17 s18 s19 s20 s21) h = b_law_l1_13 (vL s0 s2 (some (nD n)) s4 s5 s6 s7 s8 s9 s10 s11 (some (nearF n S)) s13 (some (rngF n)) (some (cntF n S)) s16 s17 s18 s19 s20 s21) h := fun A e => by
    simp only [sSeq, sAsg, eFrz, e, Rs.bind, Rs.out, gN, outO, vL, List.set_cons_succ, List.set_cons_zero]
    rfl
  exact key _ outer
theorem cnt_rep {S : List (Nat × Nat)} (hn : n ≤ 16) : ∃ s, bRepr h [cntD n S] = some (.str s) := by
  have e : cntD n S = .tup (((List.range n).map fun p => (List.range n).map fun q => cmn n S (p, q)).map rowN) := by
    simp only [cntD, List.map_map]
    congr 1
    apply List.map_congr_left
    intro p _
    simp [rowN]
  rw [e]
  refine rows_rep (fun r m => ?_) (by simp; omega)
  obtain ⟨p, _, rfl⟩ := List.mem_map.mp m
  refine ⟨by simp; omega, fun x mx => ?_⟩
  obtain ⟨q, _, rfl⟩ := List.mem_map.mp mx
  have h1 : cmn n S (p, q) ≤ (row n S p).length := List.length_filter_le _ _
  have h2 := Pg.row_len (n := n) (p := p) (ts := S)
  omega
theorem stepL {S : List (Nat × Nat)} (hn : n ≤ 16) : b_law_l1_13 (vL s0 s2 s3 (some (webD n S)) s5 s6 s7 s8 s9 s10 s11 s12 s13 s14 (some (cntF n S)) s16 s17 s18 s19 s20 s21) h = b_law_l1_14 (vL s0 s2 s3 (some (webD n S)) s5 s6 s7 s8 s9 s10 s11 s12 s13 s14 (some (cntF n S)) s16 s17 s18 s19 s20 s21) h := by
  have L : (n ≤ line) = True := Y.ll n (by omega)
  have e1 := common_counts (h := h) (n := n) (ts := S) (by omega)
  obtain ⟨r, hr⟩ := cnt_rep (h := h) (n := n) (S := S) hn
  have k1 : lComp (iA (eV 15)) (gN 24) Y.tYes (eB bTuple (aC (eV 24) (aN))) [24] (vL s0 s2 s3 (some (webD n S)) s5 s6 s7 s8 s9 s10 s11 s12 s13 s14 (some (cntF n S)) s16 s17 s18 s19 s20 s21) h = .ok ((List.range n).map fun p => .tup ((List.range n).map fun q => nD (cmn n S (p, q)))) h := by
    have c1 := compL_m (g := gN 24) (e := eB bTuple (aC (eV 24) (aN))) (σ := (vL s0 s2 s3 (some (webD n S)) s5 s6 s7 s8 s9 s10 s11 s12 s13 s14 (some (cntF n S)) s16 s17 s18 s19 s20 s21)) (h := h) (fun p => .fl ((List.range n).map fun q => nD (cmn n S (p, q)))) (fun p => .tup ((List.range n).map fun q => nD (cmn n S (p, q)))) (List.range n) fun p m => ⟨_, rfl, by
      simp only [eB, aC, aN, eV, vL, List.set_cons_succ, List.set_cons_zero, List.getElem?_cons_zero, List.getElem?_cons_succ, Rs.bind, bTuple, lstOf, Option.map_some, ofO]⟩
    have u0 : unset (vL s0 s2 s3 (some (webD n S)) s5 s6 s7 s8 s9 s10 s11 s12 s13 s14 (some (cntF n S)) s16 s17 s18 s19 s20 s21) [24] = (vL s0 s2 s3 (some (webD n S)) s5 s6 s7 s8 s9 s10 s11 s12 s13 s14 (some (cntF n S)) s16 s17 s18 s19 s20 s21) := rfl
    have i1 : iA (eV 15) (vL s0 s2 s3 (some (webD n S)) s5 s6 s7 s8 s9 s10 s11 s12 s13 s14 (some (cntF n S)) s16 s17 s18 s19 s20 s21) h = .ok ((List.range n).map fun p => .fl ((List.range n).map fun q => nD (cmn n S (p, q)))) h := by
      simp [iA, eV, Rs.bind, cntF, seqOf, lstOf, ofO]
    unfold lComp
    rw [i1]
    simp only [Rs.bind, u0, c1, List.length_map, List.length_range, L, if_true]
  have key : ∀ A : Lv, A (vL s0 s2 s3 (some (webD n S)) s5 s6 s7 s8 s9 s10 s11 s12 s13 s14 (some (cntF n S)) s16 s17 s18 s19 s20 s21) h = .ok ((List.range n).map fun p => .tup ((List.range n).map fun q => nD (cmn n S (p, q)))) h → sSeq (sIf (Y.tB (Y.e2 oNe (eB bRepr (aC (eCall d_common_counts (aC (eV 4) (aN))) (aN))) (eB bRepr (aC (eB bTuple (aC (eFrz A) (aN))) (aN))))) (sRet (eC (.bl false))) (sPass)) b_law_l1_14 (vL s0 s2 s3 (some (webD n S)) s5 s6 s7 s8 s9 s10 s11 s12 s13 s14 (some (cntF n S)) s16 s17 s18 s19 s20 s21) h = b_law_l1_14 (vL s0 s2 s3 (some (webD n S)) s5 s6 s7 s8 s9 s10 s11 s12 s13 s14 (some (cntF n S)) s16 s17 s18 s19 s20 s21) h := fun A e => by
    have ct : (.tup ((List.range n).map fun p => .tup ((List.range n).map fun q => nD (cmn n S (p, q)))) : D) = cntD n S := rfl
    have e' := e
    simp only [vL] at e'
    simp only [sSeq, sIf, sPass, Y.tB, Y.e2, eB, eCall, aC, aN, eFrz, eV, eC, vL, e', List.getElem?_cons_zero, List.getElem?_cons_succ, Rs.bind, Rs.out, e1, hr, bTuple, lstOf, Option.map_some, ofO, ct, ne_str, Bool.false_eq_true, if_false]
  exact key _ k1
theorem stepM {S : List (Nat × Nat)} (n0 : 0 < n) (hn : n ≤ 16) (hp : PenAt [o] 0 (N + 2)) : ∃ p q o', b_law_l1_14 (vL s0 s2 (some (nD n)) (some (webD n S)) s5 s6 s7 s8 s9 s10 s11 (some (nearF n S)) s13 s14 s15 s16 s17 s18 s19 s20 s21) (o :: t) = b_law_l1_16 (vL s0 s2 (some (nD n)) (some (webD n S)) s5 s6 s7 (some (nD p)) (some (nD q)) s10 s11 (some (nearF n S)) s13 s14 s15 s16 s17 s18 s19 s20 s21) (o' :: t) ∧ PenAt [o'] 0 N := by
  obtain ⟨r1, o1, e1, a0, a1, h1⟩ := Pg.drawT (t := t) dr (N := N + 1) hp (many := n) (by omega) (by omega)
  obtain ⟨r2, o2, e2, b0, b1, h2⟩ := Pg.drawT (t := t) dr (N := N) h1 (many := n) (by omega) (by omega)
  obtain ⟨p, hp1⟩ : ∃ p : Nat, r1 = (p : Int) := ⟨r1.toNat, by omega⟩
  obtain ⟨q, hq1⟩ : ∃ q : Nat, r2 = (q : Int) := ⟨r2.toNat, by omega⟩
  subst hp1 hq1
  have l2 : ((2 : Nat) ≤ line) = True := Y.ll 2 (by decide)
  refine ⟨p, q, o2, ?_, h2⟩
  have k0 : b_law_l1_14 (vL s0 s2 (some (nD n)) (some (webD n S)) s5 s6 s7 s8 s9 s10 s11 (some (nearF n S)) s13 s14 s15 s16 s17 s18 s19 s20 s21) (o :: t) = b_law_l1_15 (vL s0 s2 (some (nD n)) (some (webD n S)) s5 s6 s7 (some (nD p)) (some (nD q)) s10 s11 (some (nearF n S)) s13 s14 s15 s16 s17 s18 s19 s20 s21) (o2 :: t) := by
    have e1' : d_u_law_draw [.loc 0, nD n] (o :: t) = .ok (nD p) (o1 :: t) := e1
    have e2' : d_u_law_draw [.loc 0, nD n] (o1 :: t) = .ok (nD q) (o2 :: t) := e2
    simp only [b_law_l1_14, sSeq, sAsg, eTup, eCall, aC, aN, eV, vL, List.getElem?_cons_zero, List.getElem?_cons_succ, Rs.bind, Rs.out, e1', e2', List.length_cons, List.length_nil, l2, if_true, gT, gTs, gN, outO, List.set_cons_succ, List.set_cons_zero]
    rfl
  rw [k0]
  have lp : p < n := by omega
  have lq : q < n := by omega
  have cn := common_near (h := o2 :: t) (n := n) (ts := S) lp lq (by omega)
  obtain ⟨r, hr⟩ := row_rep (h := o2 :: t) (r := comm n S p q) (fun x mx => by
    have := (List.mem_filter.mp mx).1
    have := (Pg.mem_row.mp this).1
    omega) (by
    have h1 : (comm n S p q).length ≤ (row n S p).length := List.length_filter_le _ _
    have h2 := Pg.row_len (n := n) (p := p) (ts := S)
    omega)
  have k1 := commL (h := o2 :: t) (n := n) (ts := S) (p := p) (q := q) (σ := (vL s0 s2 (some (nD n)) (some (webD n S)) s5 s6 s7 (some (nD p)) (some (nD q)) s10 s11 (some (nearF n S)) s13 s14 s15 s16 s17 s18 s19 s20 s21)) (a := 12) (ip := 8) (iq := 9) (r := 23) rfl rfl rfl (by decide) (by decide) (by decide) (by simp) lp lq (by omega)
  have key : ∀ A : Lv, A (vL s0 s2 (some (nD n)) (some (webD n S)) s5 s6 s7 (some (nD p)) (some (nD q)) s10 s11 (some (nearF n S)) s13 s14 s15 s16 s17 s18 s19 s20 s21) (o2 :: t) = .ok ((comm n S p q).map nD) (o2 :: t) → sSeq (sIf (Y.tB (Y.e2 oNe (eB bRepr (aC (eCall d_common_near (aC (eV 4) (aC (eV 8) (aC (eV 9) (aN))))) (aN))) (eB bRepr (aC (eB bTuple (aC (eFrz A) (aN))) (aN))))) (sRet (eC (.bl false))) (sPass)) b_law_l1_16 (vL s0 s2 (some (nD n)) (some (webD n S)) s5 s6 s7 (some (nD p)) (some (nD q)) s10 s11 (some (nearF n S)) s13 s14 s15 s16 s17 s18 s19 s20 s21) (o2 :: t) = b_law_l1_16 (vL s0 s2 (some (nD n)) (some (webD n S)) s5 s6 s7 (some (nD p)) (some (nD q)) s10 s11 (some (nearF n S)) s13 s14 s15 s16 s17 s18 s19 s20 s21) (o2 :: t) := fun A e => by
    have rt : (.tup ((comm n S p q).map nD) : D) = rowN (comm n S p q) := rfl
    have e' := e
    simp only [vL] at e'
    simp only [sSeq, sIf, sPass, Y.tB, Y.e2, eB, eCall, aC, aN, eFrz, eV, eC, vL, e', List.getElem?_cons_zero, List.getElem?_cons_succ, Rs.bind, Rs.out, cn, hr, bTuple, lstOf, Option.map_some, ofO, rt, ne_str, Bool.false_eq_true, if_false]
  exact key _ k1
end
end L25
end

section
set_option Elab.async false
set_option linter.all false
set_option maxRecDepth 100000
set_option maxHeartbeats 1000000
/-! X11: a lap of the law, its numbers. -/
namespace L25
open PySem Y L2
open Pg (row comm cmn deg pairsOf wrongOf unevenD small_nat mem_pairs Ties lt2 webD fld_p fld_t fld_n Evn adj)
section
variable {o : Ob} {t : Hm} {N n k l m p q : Nat} {h : Hm} {S : List (Nat × Nat)} {s0 s2 s3 s4 s5 s6 s7 s8 s9 s10 s11 s12 s13 s14 s15 s16 s17 s18 s19 s20 s21 : Option D}
abbrev qd (n k l m : Nat) : D := .tup [nD n, nD k, nD l, nD m]
theorem py_q : py h (qd n k l m) = some (.tuple [.int (n : Nat), .int (k : Nat), .int (l : Nat), .int (m : Nat)]) := by simp [nD, py, pyL]
theorem ne_q : oNe h (qd n k l m) (qd n k l m) = some (.bl false) := by
  have sh : SeqAt.shaped (.tuple [.int (n : Nat), .int (k : Nat), .int (l : Nat), .int (m : Nat)]) = true := by simp [SeqAt.shaped, PyData.canLay0, PyData.canLayAll0, PyData.depth, PyData.depthAll]
  have ev : PyData.eqv (.tuple [.int (n : Nat), .int (k : Nat), .int (l : Nat), .int (m : Nat)]) (.tuple [.int (n : Nat), .int (k : Nat), .int (l : Nat), .int (m : Nat)]) = true := by simp [PyData.eqv, PyData.eqvAll]
  have : eqD h (qd n k l m) (qd n k l m) = some true := by
    show (match py h (qd n k l m), py h (qd n k l m) with | some a, some b => if SeqAt.shaped a && SeqAt.shaped b then some (PyData.eqv a b) else none | _, _ => none) = _
    simp only [py_q, sh, Bool.and_self, if_true, ev]
  rw [oNe, this]; rfl
theorem numbers_e (E : Evn n S k l m) (hn : n ≤ 16) : d_numbers_of [webD n S] h = .ok (qd n k l m) h := by
  have hu : isN (unevenD n S) = true := by rw [E.non]; rfl
  obtain ⟨t, us, v, vs, e1, e2, e3⟩ := Pg.numbers_ok (h := h) E.T (by omega) hu
  have m1 := mem_pairs.mp (show t ∈ pairsOf n S true by rw [e1]; simp)
  have m2 := mem_pairs.mp (show v ∈ pairsOf n S false by rw [e2]; simp)
  have c1 : cmn n S t = l := E.tl t.1 t.2 (by omega) m1.2.1 (by rw [← Pg.row_mem E.T m1.2.1]; exact m1.2.2)
  have c2 : cmn n S v = m := E.un v.1 v.2 (by omega) m2.2.1 (by omega) (by rw [← Pg.row_mem E.T m2.2.1]; exact m2.2.2)
  rw [E.dg 0 E.n0, c1, c2] at e3
  exact e3
/-- what is due at a pair -/
theorem right_ok (E : Evn n S k l m) (hp : p < n) (hq : q < n) : cmn n S (p, q) = if p = q then k else if q ∈ row n S p then l else m := by
  split
  · rename_i c
    subst c
    rw [Pg.cmn_count E.T, ← E.dg p hp, Pg.deg_count]
    apply List.countP_congr
    intro x _
    rw [Bool.and_self]
  · rename_i c
    have hr := Pg.row_mem (q := p) E.T hq
    split
    · rename_i d
      rw [decide_eq_true d] at hr
      exact E.tl p q hp hq hr.symm
    · rename_i d
      rw [decide_eq_false d] at hr
      exact E.un p q hp hq c hr.symm
theorem cnt_at (hp : p < n) (hq : q < n) : oIx h (cntF n S) (nD p) = some (.fl ((List.range n).map fun q => nD (cmn n S (p, q)))) ∧ oIx h (.fl ((List.range n).map fun q => nD (cmn n S (p, q)))) (nD q) = some (nD (cmn n S (p, q))) := by
  constructor
  · rw [cntF, nD, Y.ix_fl]; simp [hp]
  · rw [nD, Y.ix_fl]; simp [hq]
theorem l4_ok (E : Evn n S k l m) (hp : p < n) (hq : q < n) : b_law_l4 (vL s0 s2 s3 s4 s5 s6 s7 (some (nD p)) (some (nD q)) s10 s11 (some (nearF n S)) s13 s14 (some (cntF n S)) s16 (some (nD k)) (some (nD l)) (some (nD m)) s20 s21) h =
    .nx (vL s0 s2 s3 s4 s5 s6 s7 (some (nD p)) (some (nD q)) s10 s11 (some (nearF n S)) s13 s14 (some (cntF n S)) s16 (some (nD k)) (some (nD l)) (some (nD m)) (some (nD (cmn n S (p, q)))) s21) h := by
  obtain ⟨a1, a2⟩ := cnt_at (h := h) (S := S) hp hq
  have k0 : sAsg (gN 20) (eIf (Y.tB (Y.e2 oEq (eV 8) (eV 9))) (eV 17) (eIf (Y.tB (Y.e2 oIn (eV 9) (Y.e2 oIx (eV 12) (eV 8)))) (eV 18) (eV 19))) (vL s0 s2 s3 s4 s5 s6 s7 (some (nD p)) (some (nD q)) s10 s11 (some (nearF n S)) s13 s14 (some (cntF n S)) s16 (some (nD k)) (some (nD l)) (some (nD m)) s20 s21) h =
      .nx (vL s0 s2 s3 s4 s5 s6 s7 (some (nD p)) (some (nD q)) s10 s11 (some (nearF n S)) s13 s14 (some (cntF n S)) s16 (some (nD k)) (some (nD l)) (some (nD m)) (some (nD (cmn n S (p, q)))) s21) h := by
    have i1 : oIn h (nD q) (rowF (row n S p)) = some (.bl (decide (q ∈ row n S p))) := by rw [oIn, inD_F]; rfl
    have i2 : oEq h (nD p) (nD q) = some (.bl (decide (p = q))) := by simp only [oEq, eqD, nD, Option.map_some, Int.natCast_inj]
    rw [right_ok E hp hq]
    by_cases c : p = q
    · subst c
      simp only [sAsg, eIf, Y.tB, Y.e2, eV, vL, List.getElem?_cons_zero, List.getElem?_cons_succ, Rs.bind, Rs.out, i2, decide_true, ofO, if_true, gN, outO, List.set_cons_succ, List.set_cons_zero]
    · by_cases d : q ∈ row n S p
      · simp only [sAsg, eIf, Y.tB, Y.e2, eV, vL, List.getElem?_cons_zero, List.getElem?_cons_succ, Rs.bind, Rs.out, i2, c, d, decide_true, decide_false, ofO, if_true, if_false, Bool.false_eq_true, ixF hp, i1, gN, outO, List.set_cons_succ, List.set_cons_zero]
      · simp only [sAsg, eIf, Y.tB, Y.e2, eV, vL, List.getElem?_cons_zero, List.getElem?_cons_succ, Rs.bind, Rs.out, i2, c, d, decide_true, decide_false, ofO, if_true, if_false, Bool.false_eq_true, ixF hp, i1, gN, outO, List.set_cons_succ, List.set_cons_zero]
  have ne : oNe h (nD (cmn n S (p, q))) (nD (cmn n S (p, q))) = some (.bl false) := by simp [oNe, eqD, nD]
  unfold b_law_l4 sSeq
  rw [k0]
  simp only [b_law_l4_1, sIf, sPass, Y.tB, Y.e2, eV, vL, List.getElem?_cons_zero, List.getElem?_cons_succ, Rs.bind, Rs.out, a1, a2, ofO, ne, Bool.false_eq_true, if_false]
theorem l3_all (E : Evn n S k l m) (hp : p < n) : ∃ s9' s20', b_law_l3 (vL s0 s2 s3 s4 s5 s6 s7 (some (nD p)) s9 s10 s11 (some (nearF n S)) s13 (some (rngF n)) (some (cntF n S)) s16 (some (nD k)) (some (nD l)) (some (nD m)) s20 s21) h =
    .nx (vL s0 s2 s3 s4 s5 s6 s7 (some (nD p)) s9' s10 s11 (some (nearF n S)) s13 (some (rngF n)) (some (cntF n S)) s16 (some (nD k)) (some (nD l)) (some (nD m)) s20' s21) h := by
  obtain ⟨σ', e, a, b, es⟩ := forL_keep (g := gN 9) (b := b_law_l4) (h := h) nD (fun σ => ∃ a b, σ = (vL s0 s2 s3 s4 s5 s6 s7 (some (nD p)) a s10 s11 (some (nearF n S)) s13 (some (rngF n)) (some (cntF n S)) s16 (some (nD k)) (some (nD l)) (some (nD m)) b s21)) (List.range n) (vL s0 s2 s3 s4 s5 s6 s7 (some (nD p)) s9 s10 s11 (some (nearF n S)) s13 (some (rngF n)) (some (cntF n S)) s16 (some (nD k)) (some (nD l)) (some (nD m)) s20 s21) ⟨_, _, rfl⟩ fun q mq σ ⟨a, b, es⟩ => by
    subst es
    exact ⟨_, _, rfl, l4_ok (s20 := b) E hp (List.mem_range.mp mq), _, _, rfl⟩
  subst es
  have i1 : iA (eV 14) (vL s0 s2 s3 s4 s5 s6 s7 (some (nD p)) s9 s10 s11 (some (nearF n S)) s13 (some (rngF n)) (some (cntF n S)) s16 (some (nD k)) (some (nD l)) (some (nD m)) s20 s21) h = .ok ((List.range n).map nD) h := by simp [iA, eV, Rs.bind, seqOf, lstOf, ofO]
  refine ⟨a, b, ?_⟩
  unfold b_law_l3 sFor
  rw [i1]
  exact e
theorem l3_loop (E : Evn n S k l m) : ∃ s8' s9' s20', sFor (iA (eV 14)) (gN 8) (b_law_l3) (vL s0 s2 s3 s4 s5 s6 s7 s8 s9 s10 s11 (some (nearF n S)) s13 (some (rngF n)) (some (cntF n S)) s16 (some (nD k)) (some (nD l)) (some (nD m)) s20 s21) h =
    .nx (vL s0 s2 s3 s4 s5 s6 s7 s8' s9' s10 s11 (some (nearF n S)) s13 (some (rngF n)) (some (cntF n S)) s16 (some (nD k)) (some (nD l)) (some (nD m)) s20' s21) h := by
  obtain ⟨σ', e, a, b, c, es⟩ := forL_keep (g := gN 8) (b := b_law_l3) (h := h) nD (fun σ => ∃ a b c, σ = (vL s0 s2 s3 s4 s5 s6 s7 a b s10 s11 (some (nearF n S)) s13 (some (rngF n)) (some (cntF n S)) s16 (some (nD k)) (some (nD l)) (some (nD m)) c s21)) (List.range n) (vL s0 s2 s3 s4 s5 s6 s7 s8 s9 s10 s11 (some (nearF n S)) s13 (some (rngF n)) (some (cntF n S)) s16 (some (nD k)) (some (nD l)) (some (nD m)) s20 s21) ⟨_, _, _, rfl⟩ fun p mp σ ⟨a, b, c, es⟩ => by
    subst es
    obtain ⟨x, y, e⟩ := l3_all (h := h) (s0 := s0) (s2 := s2) (s3 := s3) (s4 := s4) (s5 := s5) (s6 := s6) (s7 := s7) (s9 := b) (s10 := s10) (s11 := s11) (s13 := s13) (s16 := s16) (s20 := c) (s21 := s21) E (List.mem_range.mp mp)
    exact ⟨_, _, rfl, e, _, _, _, rfl⟩
  subst es
  have i1 : iA (eV 14) (vL s0 s2 s3 s4 s5 s6 s7 s8 s9 s10 s11 (some (nearF n S)) s13 (some (rngF n)) (some (cntF n S)) s16 (some (nD k)) (some (nD l)) (some (nD m)) s20 s21) h = .ok ((List.range n).map nD) h := by simp [iA, eV, Rs.bind, seqOf, lstOf, ofO]
  refine ⟨a, b, c, ?_⟩
  unfold sFor
  rw [i1]
  exact e
theorem told_ok {h : Hm} {σ : Sl} {n k l m : Int} (e3 : σ[3]? = some (some (.int n))) (e7 : σ[17]? = some (some (.int k))) (e8 : σ[18]? = some (some (.int l))) (e9 : σ[19]? = some (some (.int m)))
    (m1 : mulOk k (k - l - 1) = true) (m2 : mulOk (n - k - 1) m = true) (se : k * (k - l - 1) = (n - k - 1) * m) :
    Y.tB (Y.e2 oNe (Y.e2 oMul (eV 17) (Y.e2 oSub (Y.e2 oSub (eV 17) (eV 18)) (eC (.int 1)))) (Y.e2 oMul (Y.e2 oSub (Y.e2 oSub (eV 3) (eV 17)) (eC (.int 1))) (eV 19))) σ h = .ok false h := by
  have z2 : ∀ a : Int, oNe h (.int a) (.int a) = some (.bl false) := fun a => by simp [oNe, eqD]
  have z3 : oMul h (.int k) (.int (k - l - 1)) = some (.int ((n - k - 1) * m)) := by simp only [oMul, m1, if_true, se]
  have z4 : oMul h (.int (n - k - 1)) (.int m) = some (.int ((n - k - 1) * m)) := by simp only [oMul, m2, if_true]
  simp only [Y.tB, Y.e2, eV, eC, e3, e7, e8, e9, Rs.bind, oSub, z2, z3, z4, ofO]
theorem mul2 {n k l m : Nat} (h1 : k ≤ 1000) (h2 : n ≤ 1000) : mulOk (k : Int) ((k : Int) - l - 1) = true ∧ mulOk ((n : Int) - k - 1) (m : Int) = true := by
  have a : ∀ x y : Int, -1000000 < x → x < 1000000 → mulOk x y = true := fun x y h1 h2 => mulOk_l (by omega) (by omega)
  exact ⟨a _ _ (by omega) (by omega), a _ _ (by omega) (by omega)⟩
theorem stepN (T : Ties n S) (hn : n ≤ 16) (hl : S.length ≤ 201) : ∃ s8' s9' s16' s17' s18' s19' s20' s21', b_law_l1_16 (vL s0 s2 (some (nD n)) (some (webD n S)) s5 s6 s7 s8 s9 s10 s11 (some (nearF n S)) (some (unevenD n S)) (some (rngF n)) (some (cntF n S)) s16 s17 s18 s19 s20 s21) h =
    .nx (vL s0 s2 (some (nD n)) (some (webD n S)) s5 s6 s7 s8' s9' s10 s11 (some (nearF n S)) (some (unevenD n S)) (some (rngF n)) (some (cntF n S)) s16' s17' s18' s19' s20' s21') h := by
  cases hu : isN (unevenD n S) with
  | false =>
    exact ⟨s8, s9, s16, s17, s18, s19, s20, s21, by simp [b_law_l1_16, vL, sIf, sPass, Y.tB, Y.e2, eV, eC, Rs.bind, Rs.out, oIs, hu, ofO]⟩
  | true =>
    obtain ⟨t, v, mt, mv, E⟩ := Pg.evn T hu
    generalize deg n S 0 = k at E
    generalize cmn n S t = l at E
    generalize cmn n S v = m at E
    obtain ⟨t1, t2, t3⟩ := mem_pairs.mp mt
    obtain ⟨v1, v2, v3⟩ := mem_pairs.mp mv
    rw [Pg.row_mem T t2] at t3
    rw [Pg.row_mem T v2] at v3
    have lk := E.less (p := t.1) (by omega) t2 t3
    have mk := E.le (p := v.1) (by omega) v2 (by omega) v3
    obtain ⟨l', m', C, q1, q2⟩ := E.comp ⟨t.1, t.2, by omega, t2, t3⟩ ⟨v.1, v.2, by omega, v2, by omega, v3⟩
    have n1 := numbers_e (h := h) E hn
    have n2 := numbers_e (h := h) C hn
    have dg := Pg.comp_deg T E.n0
    rw [E.dg 0 E.n0] at dg
    have k0 := E.k0
    have kn := E.kn
    have sq := E.square
    have cw := complement (h := h) T (by omega) (by omega)
    have ev : d_is_even [webD n (Pg.comp n S)] h = .ok (.bl true) h := by
      have e : d_is_even [webD n (Pg.comp n S)] h = .ok (.bl (isN (unevenD n (Pg.comp n S)))) h := Pg.even_ok (by omega)
      rw [C.non] at e
      exact e
    have G : Pq.Gd (n : Int) k l m := ⟨by omega, by omega, by omega, by omega, by omega, by omega, by omega⟩
    have tn : d_turned_numbers [qd n k l m] h = .ok (qd n (n - 1 - k) l' m') h := by
      have z := Pq.turn (h := h) G (by unfold Pq.mn4; omega)
      have i1 : (n : Int) - k - 1 = ((n - 1 - k : Nat) : Int) := by omega
      have i2 : (n : Int) - 2 * k + m - 2 = (l' : Int) := by omega
      have i3 : (n : Int) - 2 * k + l = (m' : Int) := by omega
      rw [i1, i2, i3] at z
      exact z
    have w1 : sAsg (gN 16) (eCall d_numbers_of (aC (eV 4) (aN))) (vL s0 s2 (some (nD n)) (some (webD n S)) s5 s6 s7 s8 s9 s10 s11 (some (nearF n S)) (some (unevenD n S)) (some (rngF n)) (some (cntF n S)) s16 s17 s18 s19 s20 s21) h = .nx (vL s0 s2 (some (nD n)) (some (webD n S)) s5 s6 s7 s8 s9 s10 s11 (some (nearF n S)) (some (unevenD n S)) (some (rngF n)) (some (cntF n S)) (some (qd n k l m)) s17 s18 s19 s20 s21) h := by
      simp only [sAsg, eCall, aC, aN, eV, vL, List.getElem?_cons_zero, List.getElem?_cons_succ, Rs.bind, Rs.out, n1, gN, outO, List.set_cons_succ, List.set_cons_zero]
    have w2 : sAsg (gT [gN 17, gN 18, gN 19]) (eSl (eV 16) (oS (eC (.int 1))) (oN)) (vL s0 s2 (some (nD n)) (some (webD n S)) s5 s6 s7 s8 s9 s10 s11 (some (nearF n S)) (some (unevenD n S)) (some (rngF n)) (some (cntF n S)) (some (qd n k l m)) s17 s18 s19 s20 s21) h = .nx (vL s0 s2 (some (nD n)) (some (webD n S)) s5 s6 s7 s8 s9 s10 s11 (some (nearF n S)) (some (unevenD n S)) (some (rngF n)) (some (cntF n S)) (some (qd n k l m)) (some (nD k)) (some (nD l)) (some (nD m)) s20 s21) h := by
      simp only [sAsg, eSl, oS, oN, eV, eC, vL, List.getElem?_cons_zero, List.getElem?_cons_succ, Rs.bind, Rs.out, Pg.cut1, List.tail_cons, gT, gTs, gN]
      rfl
    obtain ⟨x8, x9, x20, w3⟩ := l3_loop (h := h) (s0 := s0) (s2 := s2) (s3 := some (nD n)) (s4 := some (webD n S)) (s5 := s5) (s6 := s6) (s7 := s7) (s8 := s8) (s9 := s9) (s10 := s10) (s11 := s11) (s13 := some (unevenD n S)) (s16 := some (qd n k l m)) (s20 := s20) (s21 := s21) E
    obtain ⟨m1, m2⟩ := mul2 (n := n) (k := k) (l := l) (m := m) (by omega) (by omega)
    have se : (k : Int) * ((k : Int) - l - 1) = ((n : Int) - k - 1) * m := by
      have s2 : ((k * k : Nat) : Int) = ((k + k * l + (n - 1 - k) * m : Nat) : Int) := by rw [sq]
      have i1 : ((n - 1 - k : Nat) : Int) = (n : Int) - k - 1 := by omega
      rw [Int.natCast_mul, Int.natCast_add, Int.natCast_add, Int.natCast_mul, Int.natCast_mul, i1] at s2
      have : (k : Int) * ((k : Int) - l - 1) = (k : Int) * k - (k + (k : Int) * l) := by grind
      omega
    have w4 : sIf (Y.tOr (Y.tB (Y.e2 oNe (Y.e2 oIx (eV 16) (eC (.int 0))) (eV 3))) (Y.tOr (Y.tB (Y.e2 oNe (Y.e2 oMul (eV 17) (Y.e2 oSub (Y.e2 oSub (eV 17) (eV 18)) (eC (.int 1)))) (Y.e2 oMul (Y.e2 oSub (Y.e2 oSub (eV 3) (eV 17)) (eC (.int 1))) (eV 19)))) (Y.tNot (Y.tT (eIs Ty.tuple (eV 16)))))) (sRet (eC (.bl false))) (sPass) (vL s0 s2 (some (nD n)) (some (webD n S)) s5 s6 s7 x8 x9 s10 s11 (some (nearF n S)) (some (unevenD n S)) (some (rngF n)) (some (cntF n S)) (some (qd n k l m)) (some (nD k)) (some (nD l)) (some (nD m)) x20 s21) h =
        .nx (vL s0 s2 (some (nD n)) (some (webD n S)) s5 s6 s7 x8 x9 s10 s11 (some (nearF n S)) (some (unevenD n S)) (some (rngF n)) (some (cntF n S)) (some (qd n k l m)) (some (nD k)) (some (nD l)) (some (nD m)) x20 s21) h := by
      have z0 : oIx h (qd n k l m) (.int 0) = some (nD n) := Y.ix_tup (i := 0)
      have z1 : oNe h (nD n) (nD n) = some (.bl false) := by simp [oNe, eqD, nD]
      have z9 : ∀ σ, eV 16 σ h = .ok (qd n k l m) h → eIs Ty.tuple (eV 16) σ h = .ok (.bl true) h := fun σ e => by simp [eIs, Y.e1, e, Rs.bind, instD, ofO]
      have z10 := z9 (vL s0 s2 (some (nD n)) (some (webD n S)) s5 s6 s7 x8 x9 s10 s11 (some (nearF n S)) (some (unevenD n S)) (some (rngF n)) (some (cntF n S)) (some (qd n k l m)) (some (nD k)) (some (nD l)) (some (nD m)) x20 s21) rfl
      have y1 : Y.tB (Y.e2 oNe (Y.e2 oIx (eV 16) (eC (.int 0))) (eV 3)) (vL s0 s2 (some (nD n)) (some (webD n S)) s5 s6 s7 x8 x9 s10 s11 (some (nearF n S)) (some (unevenD n S)) (some (rngF n)) (some (cntF n S)) (some (qd n k l m)) (some (nD k)) (some (nD l)) (some (nD m)) x20 s21) h = .ok false h := by
        simp only [Y.tB, Y.e2, eV, eC, vL, List.getElem?_cons_zero, List.getElem?_cons_succ, Rs.bind, z0, z1, ofO]
      have y2 : Y.tB (Y.e2 oNe (Y.e2 oMul (eV 17) (Y.e2 oSub (Y.e2 oSub (eV 17) (eV 18)) (eC (.int 1)))) (Y.e2 oMul (Y.e2 oSub (Y.e2 oSub (eV 3) (eV 17)) (eC (.int 1))) (eV 19))) (vL s0 s2 (some (nD n)) (some (webD n S)) s5 s6 s7 x8 x9 s10 s11 (some (nearF n S)) (some (unevenD n S)) (some (rngF n)) (some (cntF n S)) (some (qd n k l m)) (some (nD k)) (some (nD l)) (some (nD m)) x20 s21) h = .ok false h := by
        exact told_ok (n := n) (k := k) (l := l) (m := m) rfl rfl rfl rfl m1 m2 se
      have y3 : Y.tNot (Y.tT (eIs Ty.tuple (eV 16))) (vL s0 s2 (some (nD n)) (some (webD n S)) s5 s6 s7 x8 x9 s10 s11 (some (nearF n S)) (some (unevenD n S)) (some (rngF n)) (some (cntF n S)) (some (qd n k l m)) (some (nD k)) (some (nD l)) (some (nD m)) x20 s21) h = .ok false h := by
        unfold Y.tNot Y.tT
        rw [z10]
        rfl
      have key : ∀ {A B C : Tv} {σ : Sl}, A σ h = .ok false h → B σ h = .ok false h → C σ h = .ok false h → sIf (Y.tOr A (Y.tOr B C)) (sRet (eC (.bl false))) (sPass) σ h = .nx σ h := fun a b c => by
        simp only [sIf, sPass, Y.tOr, a, b, c, Rs.bind, Rs.out, Bool.false_eq_true, if_false]
      exact key y1 y2 y3
    have w5 : sAsg (gN 21) (eCall d_complement (aC (eV 4) (aN))) (vL s0 s2 (some (nD n)) (some (webD n S)) s5 s6 s7 x8 x9 s10 s11 (some (nearF n S)) (some (unevenD n S)) (some (rngF n)) (some (cntF n S)) (some (qd n k l m)) (some (nD k)) (some (nD l)) (some (nD m)) x20 s21) h =
        .nx (vL s0 s2 (some (nD n)) (some (webD n S)) s5 s6 s7 x8 x9 s10 s11 (some (nearF n S)) (some (unevenD n S)) (some (rngF n)) (some (cntF n S)) (some (qd n k l m)) (some (nD k)) (some (nD l)) (some (nD m)) x20 (some (webD n (Pg.comp n S)))) h := by
      simp only [sAsg, eCall, aC, aN, eV, vL, List.getElem?_cons_zero, List.getElem?_cons_succ, Rs.bind, Rs.out, cw, gN, outO, List.set_cons_succ, List.set_cons_zero]
    have w6 : sIf (Y.tOr (Y.tB (Y.e2 oIsNot (eCall d_is_even (aC (eV 21) (aN))) (eC (.bl true)))) (Y.tB (Y.e2 oNe (eCall d_numbers_of (aC (eV 21) (aN))) (eCall d_turned_numbers (aC (eV 16) (aN)))))) (sRet (eC (.bl false))) (sPass) (vL s0 s2 (some (nD n)) (some (webD n S)) s5 s6 s7 x8 x9 s10 s11 (some (nearF n S)) (some (unevenD n S)) (some (rngF n)) (some (cntF n S)) (some (qd n k l m)) (some (nD k)) (some (nD l)) (some (nD m)) x20 (some (webD n (Pg.comp n S)))) h =
        .nx (vL s0 s2 (some (nD n)) (some (webD n S)) s5 s6 s7 x8 x9 s10 s11 (some (nearF n S)) (some (unevenD n S)) (some (rngF n)) (some (cntF n S)) (some (qd n k l m)) (some (nD k)) (some (nD l)) (some (nD m)) x20 (some (webD n (Pg.comp n S)))) h := by
      have z1 : oIsNot h (.bl true) (.bl true) = some (.bl false) := by simp [oIsNot]
      simp only [sIf, sPass, Y.tOr, Y.tB, Y.e2, eCall, aC, aN, eV, eC, vL, List.getElem?_cons_zero, List.getElem?_cons_succ, Rs.bind, Rs.out, ev, z1, n2, tn, ne_q, ofO, Bool.false_eq_true, if_false]
    refine ⟨x8, x9, some (qd n k l m), some (nD k), some (nD l), some (nD m), x20, some (webD n (Pg.comp n S)), ?_⟩
    have c0 : Y.tB (Y.e2 oIs (eV 13) (eC .non)) (vL s0 s2 (some (nD n)) (some (webD n S)) s5 s6 s7 s8 s9 s10 s11 (some (nearF n S)) (some (unevenD n S)) (some (rngF n)) (some (cntF n S)) s16 s17 s18 s19 s20 s21) h = .ok true h := by
      simp [Y.tB, Y.e2, eV, eC, Rs.bind, oIs, hu, ofO]
    unfold b_law_l1_16 sIf
    rw [c0]
    simp only [Rs.out, if_true]
    have z : ∀ {a b : Sv} {σ σ1 : Sl}, a σ h = .nx σ1 h → sSeq a b σ h = b σ1 h := fun e => by simp only [sSeq, e]
    rw [z w1, z w2, z w3]
    have w4' := w4
    have w6' := w6
    unfold sIf at w4' w6'
    rw [z w4', z w5]
    exact w6'
end
end L25
end

section
set_option Elab.async false
set_option linter.all false
set_option maxRecDepth 100000
set_option maxHeartbeats 1000000
/-! PL25: the plain law of k25. -/
namespace L25
open PySem Y L2
open Pg (unevenD Ties webD)
theorem lap_ok {o : Ob} {t : Hm} {N : Nat} {lap : Int} {s0 s3 s4 s5 s6 s7 s8 s9 s10 s11 s12 s13 s14 s15 s16 s17 s18 s19 s20 s21 : Option D} (hlap : lap ≤ 1 ∨ ∀ o, Told (o :: t)) (hp : PenAt [o] 0 (N + 300)) :
    ∃ σ' o' x, b_law_l1 (vL s0 (some (.int lap)) s3 s4 s5 s6 s7 s8 s9 s10 s11 s12 s13 s14 s15 s16 s17 s18 s19 s20 s21) (o :: t) = .nx σ' (o' :: (t ++ [x])) ∧ (∃ r2 r3 r4 r5 r6 r7 r8 r9 r10 r11 r12 r13 r14 r15 r16 r17 r18 r19 r20 r21, σ' = (vL s0 r2 r3 r4 r5 r6 r7 r8 r9 r10 r11 r12 r13 r14 r15 r16 r17 r18 r19 r20 r21)) ∧ PenAt [o'] 0 N := by
  obtain ⟨n1, ts1, o1, eA, T1, p1, q1, l1, h1⟩ := stepA (o := o) (t := t) (N := N + 100) (s0 := s0) (s2 := some (.int lap)) (s3 := s3) (s4 := s4) (s5 := s5) (s6 := s6) (s7 := s7) (s8 := s8) (s9 := s9) (s10 := s10) (s11 := s11) (s12 := s12) (s13 := s13) (s14 := s14) (s15 := s15) (s16 := s16) (s17 := s17) (s18 := s18) (s19 := s19) (s20 := s20) (s21 := s21) (hp.mono (by omega))
  obtain ⟨n, ts, x5, o2, eB, T2, n0, hn, l2, h2⟩ := stepB (o := o1) (t := t) (N := N + 90) (lap := lap) (s0 := s0) (s5 := s5) (s6 := s6) (s7 := s7) (s8 := s8) (s9 := s9) (s10 := s10) (s11 := s11) (s12 := s12) (s13 := s13) (s14 := s14) (s15 := s15) (s16 := s16) (s17 := s17) (s18 := s18) (s19 := s19) (s20 := s20) (s21 := s21) T1 p1 q1 l1 hlap (h1.mono (by omega))
  obtain ⟨ns, o3, eD, pm, h3⟩ := stepD (o := o2) (t := t) (N := N + 60) (n := n) (ts := ts) (s0 := s0) (s2 := some (.int lap)) (s3 := some (nD n1)) (s5 := x5) (s6 := s6) (s7 := s7) (s8 := s8) (s9 := s9) (s10 := s10) (s11 := s11) (s12 := s12) (s13 := s13) (s14 := s14) (s15 := s15) (s16 := s16) (s17 := s17) (s18 := s18) (s19 := s19) (s20 := s20) (s21 := s21) hn (h2.mono (by omega))
  obtain ⟨U, x8, x9, x10, x11, eE, B1, lU⟩ := stepE (o := o3) (t := t) (n := n) (s0 := s0) (s2 := some (.int lap)) (s5 := x5) (s8 := s8) (s9 := s9) (s10 := s10) (s11 := s11) (s12 := s12) (s13 := s13) (s14 := s14) (s15 := s15) (s16 := s16) (s17 := s17) (s18 := s18) (s19 := s19) (s20 := s20) (s21 := s21) pm T2 l2
  obtain ⟨U2, d7, y10, y11, o4, eF, B2, lU2, hd, h4⟩ := stepF (o := o3) (t := t) (n := n) (N := N + 20) (s0 := s0) (s2 := some (.int lap)) (s4 := some (webD n ts)) (s5 := x5) (s6 := some (.fl (ns.map nD))) (s8 := x8) (s9 := x9) (s10 := x10) (s11 := x11) (s12 := s12) (s13 := s13) (s14 := s14) (s15 := s15) (s16 := s16) (s17 := s17) (s18 := s18) (s19 := s19) (s20 := s20) (s21 := s21) B1 hn lU (h3.mono (by omega))
  obtain ⟨S, eG, T, pS⟩ := stepG (n := n) (s0 := s0) (s2 := some (.int lap)) (s4 := some (webD n ts)) (s5 := x5) (s6 := some (.fl (ns.map nD))) (s8 := x8) (s9 := x9) (s10 := y10) (s11 := y11) (s12 := s12) (s13 := s13) (s14 := s14) (s15 := s15) (s16 := s16) (s17 := s17) (s18 := s18) (s19 := s19) (s20 := s20) (s21 := s21) B2 hn lU2 hd
  have lS : S.length ≤ 201 := by rw [pS.length_eq]; exact lU2
  have eH := stepH (n := n) (s0 := s0) (s2 := some (.int lap)) (s4 := some (webD n S)) (s5 := x5) (s6 := some (.fl (ns.map nD))) (s8 := x8) (s9 := x9) (s10 := y10) (s11 := y11) (s12 := s12) (s13 := s13) (s14 := s14) (s15 := s15) (s16 := s16) (s17 := s17) (s18 := s18) (s19 := s19) (s20 := s20) (s21 := s21) B2 n0 hn lU2 hd pS
  have eJ := stepJ (h := o4 :: (t ++ [.lst (U.map tD)])) (n := n) (S := S) (s0 := s0) (s2 := some (.int lap)) (s3 := some (nD n)) (s5 := x5) (s6 := some (.fl (ns.map nD))) (s7 := some d7) (s8 := x8) (s9 := x9) (s10 := y10) (s11 := y11) (s12 := some (nearF n S)) (s14 := s14) (s15 := s15) (s16 := s16) (s17 := s17) (s18 := s18) (s19 := s19) (s20 := s20) (s21 := s21) hn
  have eK := stepK (h := o4 :: (t ++ [.lst (U.map tD)])) (n := n) (S := S) (s0 := s0) (s2 := some (.int lap)) (s4 := some (webD n S)) (s5 := x5) (s6 := some (.fl (ns.map nD))) (s7 := some d7) (s8 := x8) (s9 := x9) (s10 := y10) (s11 := y11) (s13 := some (unevenD n S)) (s14 := s14) (s15 := s15) (s16 := s16) (s17 := s17) (s18 := s18) (s19 := s19) (s20 := s20) (s21 := s21) hn
  have eL := stepL (h := o4 :: (t ++ [.lst (U.map tD)])) (n := n) (S := S) (s0 := s0) (s2 := some (.int lap)) (s3 := some (nD n)) (s5 := x5) (s6 := some (.fl (ns.map nD))) (s7 := some d7) (s8 := x8) (s9 := x9) (s10 := y10) (s11 := y11) (s12 := some (nearF n S)) (s13 := some (unevenD n S)) (s14 := some (rngF n)) (s16 := s16) (s17 := s17) (s18 := s18) (s19 := s19) (s20 := s20) (s21 := s21) hn
  obtain ⟨p, q, o5, eM, h5⟩ := stepM (o := o4) (t := t ++ [.lst (U.map tD)]) (n := n) (S := S) (N := N) (s0 := s0) (s2 := some (.int lap)) (s5 := x5) (s6 := some (.fl (ns.map nD))) (s7 := some d7) (s8 := x8) (s9 := x9) (s10 := y10) (s11 := y11) (s13 := some (unevenD n S)) (s14 := some (rngF n)) (s15 := some (cntF n S)) (s16 := s16) (s17 := s17) (s18 := s18) (s19 := s19) (s20 := s20) (s21 := s21) n0 hn (h4.mono (by omega))
  obtain ⟨z8, z9, z16, z17, z18, z19, z20, z21, eN⟩ := stepN (h := o5 :: (t ++ [.lst (U.map tD)])) (n := n) (S := S) (s0 := s0) (s2 := some (.int lap)) (s5 := x5) (s6 := some (.fl (ns.map nD))) (s7 := some d7) (s8 := some (nD p)) (s9 := some (nD q)) (s10 := y10) (s11 := y11) (s16 := s16) (s17 := s17) (s18 := s18) (s19 := s19) (s20 := s20) (s21 := s21) T hn lS
  exact ⟨(vL s0 (some (.int lap)) (some (nD n)) (some (webD n S)) x5 (some (.fl (ns.map nD))) (some d7) z8 z9 y10 y11 (some (nearF n S)) (some (unevenD n S)) (some (rngF n)) (some (cntF n S)) z16 z17 z18 z19 z20 z21), o5, .lst (U.map tD), by rw [eA, eB, eD, eE, eF, eG, eH, eJ, eK, eL, eM, eN], ⟨_, _, _, _, _, _, _, _, _, _, _, _, _, _, _, _, _, _, _, _, rfl⟩, h5⟩
theorem zero {h : Hm} : ∀ σ, b_law_2 σ h = .rt (.bl true) h := fun σ => by
  have T : Ties 0 [] := ⟨(fun t m => nomatch m), List.Pairwise.nil⟩
  have kw : d_Web [.int 0, .tup []] h = .ok (webD 0 []) h := Pg.web (n := 0) (ts := []) T (by omega) (by simp)
  have ku : d_uneven [webD 0 []] h = .ok (unevenD 0 []) h := Pg.uneven_ok (n := 0) (ts := []) (by omega)
  have u0 : unevenD 0 [] = .tup [.str "degree", .int 0] := by unfold unevenD; rw [if_pos (.inl rfl)]; rfl
  have eq : oEq h (.tup [.str "degree", .int 0]) (.tup [.str "degree", .int 0]) = some (.bl true) := by kernel_rfl
  have l0 : ((0 : Nat) ≤ line) = True := Y.ll 0 (by decide)
  have l2 : ((2 : Nat) ≤ line) = True := Y.ll 2 (by decide)
  simp only [b_law_2, sRet, Y.e2, eCall, eTup, aC, aN, eC, Rs.bind, Rs.out, List.length_nil, List.length_cons, l0, l2, if_true, kw, ku, u0, eq, ofO]
theorem law_true (ns : List Int) (hl : ns.length ≤ 63) : LawTrue d_law ns := by
  obtain ⟨o, e, hp⟩ := pen_made 89 131 1000000579 (by decide) ns hl []
  have e' : d_u_law_pen [.sq (ns.map .int)] [] = .ok (.loc 0) [o] := e
  have hp' : PenAt [o] 0 999999999 := hp
  have start : b_law (startD 25 [.sq (ns.map .int)]) [] = b_law_1 (vL (some (.sq (ns.map .int))) none none none none none none none none none none none none none none none none none none none none) [o] := by
    simp [b_law, sSeq, sAsg, eCall, aC, aN, eV, startD, Rs.bind, Rs.out, e', gN, outO]
  have sm : iR1 (aC (eC (.int 4)) (aN)) (vL (some (.sq (ns.map .int))) none none none none none none none none none none none none none none none none none none none none) [o] = .ok [.int 0, .int 1, .int 2, .int 3] [o] := by
    have : small 4 = true := by decide
    simp [iR1, aC, aN, eC, Rs.bind, this]
    decide
  obtain ⟨σ1, o1, x1, e1, ⟨a2, a3, a4, a5, a6, a7, a8, a9, a10, a11, a12, a13, a14, a15, a16, a17, a18, a19, a20, a21, es1⟩, h1⟩ := lap_ok (o := o) (t := []) (N := 1000) (lap := 0) (s0 := some (.sq (ns.map .int))) (s3 := none) (s4 := none) (s5 := none) (s6 := none) (s7 := none) (s8 := none) (s9 := none) (s10 := none) (s11 := none) (s12 := none) (s13 := none) (s14 := none) (s15 := none) (s16 := none) (s17 := none) (s18 := none) (s19 := none) (s20 := none) (s21 := none) (.inl (by decide)) (hp'.mono (by decide))
  subst es1
  obtain ⟨σ2, o2, x2, e2, ⟨b2, b3, b4, b5, b6, b7, b8, b9, b10, b11, b12, b13, b14, b15, b16, b17, b18, b19, b20, b21, es2⟩, h2⟩ := lap_ok (o := o1) (t := [x1]) (N := 700) (lap := 1) (s0 := some (.sq (ns.map .int))) (s3 := a3) (s4 := a4) (s5 := a5) (s6 := a6) (s7 := a7) (s8 := a8) (s9 := a9) (s10 := a10) (s11 := a11) (s12 := a12) (s13 := a13) (s14 := a14) (s15 := a15) (s16 := a16) (s17 := a17) (s18 := a18) (s19 := a19) (s20 := a20) (s21 := a21) (.inl (by decide)) h1
  subst es2
  obtain ⟨σ3, o3, x3, e3, ⟨c2, c3, c4, c5, c6, c7, c8, c9, c10, c11, c12, c13, c14, c15, c16, c17, c18, c19, c20, c21, es3⟩, h3⟩ := lap_ok (o := o2) (t := [x1, x2]) (N := 400) (lap := 2) (s0 := some (.sq (ns.map .int))) (s3 := b3) (s4 := b4) (s5 := b5) (s6 := b6) (s7 := b7) (s8 := b8) (s9 := b9) (s10 := b10) (s11 := b11) (s12 := b12) (s13 := b13) (s14 := b14) (s15 := b15) (s16 := b16) (s17 := b17) (s18 := b18) (s19 := b19) (s20 := b20) (s21 := b21) (.inr fun o => told3) h2
  subst es3
  obtain ⟨σ4, o4, x4, e4, ⟨d2, d3, d4, d5, d6, d7, d8, d9, d10, d11, d12, d13, d14, d15, d16, d17, d18, d19, d20, d21, es4⟩, h4⟩ := lap_ok (o := o3) (t := [x1, x2, x3]) (N := 100) (lap := 3) (s0 := some (.sq (ns.map .int))) (s3 := c3) (s4 := c4) (s5 := c5) (s6 := c6) (s7 := c7) (s8 := c8) (s9 := c9) (s10 := c10) (s11 := c11) (s12 := c12) (s13 := c13) (s14 := c14) (s15 := c15) (s16 := c16) (s17 := c17) (s18 := c18) (s19 := c19) (s20 := c20) (s21 := c21) (.inr fun o => told4) h3
  subst es4
  have loop : forL (gN 2) b_law_l1 [.int 0, .int 1, .int 2, .int 3] (vL (some (.sq (ns.map .int))) none none none none none none none none none none none none none none none none none none none none) [o] = .nx (vL (some (.sq (ns.map .int))) d2 d3 d4 d5 d6 d7 d8 d9 d10 d11 d12 d13 d14 d15 d16 d17 d18 d19 d20 d21) [o4, x1, x2, x3, x4] := by
    have f1 := e1
    have f2 := e2
    have f3 := e3
    have f4 := e4
    simp only [List.nil_append, List.cons_append] at f1 f2 f3 f4
    simp only [forL, gN, List.set_cons_succ, List.set_cons_zero, f1, f2, f3, f4]
  have l1 : b_law_1 (vL (some (.sq (ns.map .int))) none none none none none none none none none none none none none none none none none none none none) [o] = .rt (.bl true) [o4, x1, x2, x3, x4] := by
    unfold b_law_1 sSeq sFor
    rw [sm]
    simp only [Rs.out, loop]
    exact zero _
  refine ⟨[], ?_⟩
  unfold d_law fnP
  rw [start, l1]
  simp [finP, D.low, sealed]
end L25
end

section
set_option Elab.async false
set_option linter.all false
set_option maxRecDepth 100000
set_option maxHeartbeats 4000000
namespace K25
open PySem PySem.Spec PyProof.Rows L2 Y
def top (i : Nat) : Stmt := PySem.Challenge.pw_sixtylines_k25_whole_even_webs.main.body.getD i (.Pass ⟨0, 0, 0, 0⟩)
section
variable {P : Program} {w : World} {K : PySem.W.Frag} {mg : Str → Option Value} {base : Heap} {cl : Nat → Addr} {f : Addr} {fd : FuncData}
abbrev s_u_law_pen : Stmt := top 42
def b_u_law_pen_l1 : Sv := sAsg (gN 1) (e2 oMod (eB bInt (aC (e2 oAdd (e2 oMul (eV 1) (eC (.int 131))) (eV 2)) (aN))) (eC (.int 1000000579)))
def b_u_law_pen_2 : Sv := sRet (eDct (pC (eC (.str "cells")) (eFrz (lB mList (aC (eV 0) (aN)))) (pC (eC (.str "at")) (eC (.int 0)) (pC (eC (.str "digits")) (eC (.int 0)) (pC (eC (.str "count")) (eC (.int 0)) (pC (eC (.str "fold")) (eV 1) (pN)))))))
def b_u_law_pen_1 : Sv := sSeq (sFor (iA (eV 0)) (gN 2) (b_u_law_pen_l1))
    (b_u_law_pen_2)
def b_u_law_pen : Sv := sSeq (sAsg (gN 1) (eC (.int 89)))
    (b_u_law_pen_1)
def d_u_law_pen : Fn := fnK 3 b_u_law_pen
theorem sc_u_law_pen : FnScope ["script", "fold", "cell"] ["script"] (defScope s_u_law_pen) := ⟨rfl, rfl, rfl, by decide +kernel, rfl, by decide +kernel, by decide +kernel⟩
theorem fn_u_law_pen (F : Fun K "_law_pen" "_law_pen" s_u_law_pen f fd) (z_int : mg "int" = none) (z_list : mg "list" = none)      :
    FnG P w K mg base 1 f fd ["script"] (spP K cl 1 d_u_law_pen) := by
  refine fn_K (N := ["script", "fold", "cell"]) F sc_u_law_pen ?_
  rintro ⟨prog, w2, K2, mg2, base2, A, N, s0, H0, ⟨sc, lo, gl, ce, qu, fu, co, fr, bl⟩, outer, stack, ex, fn, calm, pn, xe⟩ e1 e2 e3 e4 e5 e6 e7 e8 e9 e10 E c tk hp
  dsimp only at e1 e2 e3 e4 e5 e6 e7 e8 e9 e10
  subst e1 e2 e3 e4 e5 e6 e7 e8 e9 e10
  exact ss_cons (s_set (j := 1) c.nd (s_int))
    (ss_cons (s_for hp c.calm (i_any (s_v 0)) (g_n 2 c.nd) (ss_one (s_set (j := 1) c.nd (s_op y_mod (s_bT c_int rfl z_int rfl (a_cons (s_op y_add (s_op y_mul (s_v 1) (s_int)) (s_v 2)) (a_nil))) (s_int)))))
    (ss_one (s_ret (s_dct (p_cons (s_str) (s_frz (l_bT c_list rfl z_list rfl (a_cons (s_v 0) (a_nil)))) (p_cons (s_str) (s_int) (p_cons (s_str) (s_int) (p_cons (s_str) (s_int) (p_cons (s_str) (s_v 1) (p_nil)))))) (by rfl) (by rfl) (by decide) (by decide)))))
abbrev s_near_lots : Stmt := top 12
def b_near_lots_l1_1 : Sv := sApp (e2 oIx (eV 2) (eV 4)) (eV 3)
def b_near_lots_l1 : Sv := sSeq (sApp (e2 oIx (eV 2) (eV 3)) (eV 4))
    (b_near_lots_l1_1)
def b_near_lots_2 : Sv := sRet (eB bTuple (aC (eFrz (lComp (iA (eV 2)) (gN 5) (tYes) (eB bTuple (aC (eFrz (lB mSortA (aC (eV 5) (aN)))) (aN))) [5])) (aN)))
def b_near_lots_1 : Sv := sSeq (sFor (iA (eV 1)) (gT [gN 3, gN 4]) (b_near_lots_l1))
    (b_near_lots_2)
def b_near_lots : Sv := sSeq (sAsg (gN 2) (eFrz (lComp (iR1 (aC (eV 0) (aN))) (gN 3) (tYes) (eMut (lLst (aN))) [3])))
    (b_near_lots_1)
def d_near_lots : Fn := fnP 6 b_near_lots
theorem sc_near_lots : FnScope ["places", "ties", "found", "p", "q", "row"] ["places", "ties"] (defScope s_near_lots) := ⟨rfl, rfl, rfl, by decide +kernel, rfl, by decide +kernel, by decide +kernel⟩
theorem fn_near_lots (F : Fun K "near_lots" "near_lots" s_near_lots f fd) (z_range : mg "range" = none) (z_sorted : mg "sorted" = none) (z_tuple : mg "tuple" = none)      :
    FnG P w K mg base 1 f fd ["places", "ties"] (spP K cl 2 d_near_lots) := by
  refine fn_P (N := ["places", "ties", "found", "p", "q", "row"]) F sc_near_lots ?_
  rintro ⟨prog, w2, K2, mg2, base2, A, N, s0, H0, ⟨sc, lo, gl, ce, qu, fu, co, fr, bl⟩, outer, stack, ex, fn, calm, pn, xe⟩ e1 e2 e3 e4 e5 e6 e7 e8 e9 e10 E c tk hp
  dsimp only at e1 e2 e3 e4 e5 e6 e7 e8 e9 e10
  subst e1 e2 e3 e4 e5 e6 e7 e8 e9 e10
  exact ss_cons (s_setComp (i := 2) c rfl rfl rfl (i_r1 rfl z_range (a_cons (s_v 0) (a_nil))) (own := [("p", 3)]) (blkOk_by rfl) (by decide) (fun s H C cc fp => g_n 3 (c.blk).nd) (fun s H C cc fp => ts_nil) (fun s H C cc fp => s_mut (l_lst (a_nil))))
    (ss_cons (s_for hp c.calm (i_any (s_v 1)) (g_tup c.calm (gs_cons (g_n 3 c.nd) (gs_cons (g_n 4 c.nd) (gs_nil)))) (ss_cons (s_app (s_ix c (s_v 2) (s_v 3) (fun _ _ => rfl)) (s_v 4) (fun h1 h2 => pe_bm PySem.F.plainAttrs_list PySem.F.slot_list_append PySem.F.type_list_append mt_append h1 h2))
    (ss_one (s_app (s_ix c (s_v 2) (s_v 4) (fun _ _ => rfl)) (s_v 3) (fun h1 h2 => pe_bm PySem.F.plainAttrs_list PySem.F.slot_list_append PySem.F.type_list_append mt_append h1 h2)))))
    (ss_one (s_ret (s_bT c_tuple rfl z_tuple rfl (a_cons (s_frz (l_comp c (i_any (s_v 2)) (own := [("row", 5)]) (blkOk_by rfl) (by decide) (fun s H C cc fp => g_n 5 (c.blk).nd) (fun s H C cc fp => ts_nil) (fun s H C cc fp => s_bT c_tuple rfl z_tuple rfl (a_cons (s_frz (l_b (c_sortA (c.blk)) rfl z_sorted rfl (a_cons (s_v 5) (a_nil)))) (a_nil))))) (a_nil))))))
abbrev s_is_whole : Stmt := top 6
def b_is_whole : Sv := sRet (eAnd (eIs Ty.int (eV 0)) (e1 uNot (eIs Ty.bool (eV 0))))
def d_is_whole : Fn := fnP 1 b_is_whole
theorem sc_is_whole : FnScope ["value"] ["value"] (defScope s_is_whole) := ⟨rfl, rfl, rfl, by decide +kernel, rfl, by decide +kernel, by decide +kernel⟩
theorem fn_is_whole (F : Fun K "is_whole" "is_whole" s_is_whole f fd) (z_isinstance : mg "isinstance" = none) (z_int : mg "int" = none) (z_bool : mg "bool" = none)      :
    FnG P w K mg base 1 f fd ["value"] (spP K cl 1 d_is_whole) := by
  refine fn_P (N := ["value"]) F sc_is_whole ?_
  rintro ⟨prog, w2, K2, mg2, base2, A, N, s0, H0, ⟨sc, lo, gl, ce, qu, fu, co, fr, bl⟩, outer, stack, ex, fn, calm, pn, xe⟩ e1 e2 e3 e4 e5 e6 e7 e8 e9 e10 E c tk hp
  dsimp only at e1 e2 e3 e4 e5 e6 e7 e8 e9 e10
  subst e1 e2 e3 e4 e5 e6 e7 e8 e9 e10
  exact ss_one (s_ret (s_and (s_isi Ty.int (s_v 0) (hm := z_isinstance) (hm2 := z_int) (hb := rfl) (hn := by decide) (hd := by decide)) (s_one (s_not (s_isi Ty.bool (s_v 0) (hm := z_isinstance) (hm2 := z_bool) (hb := rfl) (hn := by decide) (hd := by decide))))))
abbrev s_is_count : Stmt := top 7
def b_is_count : Sv := sRet (eAnd (eCall d_is_whole (aC (eV 0) (aN))) (e2 oGe (eV 0) (eC (.int 0))))
def d_is_count : Fn := fnP 1 b_is_count
theorem sc_is_count : FnScope ["value"] ["value"] (defScope s_is_count) := ⟨rfl, rfl, rfl, by decide +kernel, rfl, by decide +kernel, by decide +kernel⟩
theorem fn_is_count (F : Fun K "is_count" "is_count" s_is_count f fd)      (D_is_whole : Def P w K mg base 1 "is_whole" ["value"] (spP K cl 1 d_is_whole)) :
    FnG P w K mg base 2 f fd ["value"] (spP K cl 1 d_is_count) := by
  refine fn_P (N := ["value"]) F sc_is_count ?_
  rintro ⟨prog, w2, K2, mg2, base2, A, N, s0, H0, ⟨sc, lo, gl, ce, qu, fu, co, fr, bl⟩, outer, stack, ex, fn, calm, pn, xe⟩ e1 e2 e3 e4 e5 e6 e7 e8 e9 e10 E c tk hp
  dsimp only at e1 e2 e3 e4 e5 e6 e7 e8 e9 e10
  subst e1 e2 e3 e4 e5 e6 e7 e8 e9 e10
  exact ss_one (s_ret (s_and (q_call D_is_whole (by decide) c tk (a_cons (s_v 0) (a_nil)) (al_cons (al_nil))) (s_one (s_cmp y_ge (s_v 0) (s_int) rfl))))
abbrev s_is_place_of : Stmt := top 9
def b_is_place_of : Sv := sRet (eAnd (eCall d_is_count (aC (eV 1) (aN))) (e2 oLt (eV 1) (eV 0)))
def d_is_place_of : Fn := fnP 2 b_is_place_of
theorem sc_is_place_of : FnScope ["places", "value"] ["places", "value"] (defScope s_is_place_of) := ⟨rfl, rfl, rfl, by decide +kernel, rfl, by decide +kernel, by decide +kernel⟩
theorem fn_is_place_of (F : Fun K "is_place_of" "is_place_of" s_is_place_of f fd)      (D_is_count : Def P w K mg base 2 "is_count" ["value"] (spP K cl 1 d_is_count)) :
    FnG P w K mg base 3 f fd ["places", "value"] (spP K cl 2 d_is_place_of) := by
  refine fn_P (N := ["places", "value"]) F sc_is_place_of ?_
  rintro ⟨prog, w2, K2, mg2, base2, A, N, s0, H0, ⟨sc, lo, gl, ce, qu, fu, co, fr, bl⟩, outer, stack, ex, fn, calm, pn, xe⟩ e1 e2 e3 e4 e5 e6 e7 e8 e9 e10 E c tk hp
  dsimp only at e1 e2 e3 e4 e5 e6 e7 e8 e9 e10
  subst e1 e2 e3 e4 e5 e6 e7 e8 e9 e10
  exact ss_one (s_ret (s_and (q_call D_is_count (by decide) c tk (a_cons (s_v 1) (a_nil)) (al_cons (al_nil))) (s_one (s_cmp (y_lt c) (s_v 1) (s_v 0) rfl))))
abbrev s_is_tie : Stmt := top 10
def b_is_tie_1 : Sv := sRet (e2 oLt (e2 oIx (eV 1) (eC (.int 0))) (e2 oIx (eV 1) (eC (.int 1))))
def b_is_tie : Sv := sSeq (sIf (tOr (tNot (tT (eIs Ty.tuple (eV 1)))) (tOr (tB (e2 oNe (eB bLen (aC (eV 1) (aN))) (eC (.int 2)))) (tNot (tT (eB bAll (aC (eFrz (lComp (iA (eV 1)) (gN 2) (tYes) (eCall d_is_place_of (aC (eV 0) (aC (eV 2) (aN)))) [2])) (aN))))))) (sRet (eC (.bl false))) (sPass))
    (b_is_tie_1)
def d_is_tie : Fn := fnP 3 b_is_tie
theorem sc_is_tie : FnScope ["places", "value", "p"] ["places", "value"] (defScope s_is_tie) := ⟨rfl, rfl, rfl, by decide +kernel, rfl, by decide +kernel, by decide +kernel⟩
theorem fn_is_tie (F : Fun K "is_tie" "is_tie" s_is_tie f fd) (z_isinstance : mg "isinstance" = none) (z_tuple : mg "tuple" = none) (z_len : mg "len" = none) (z_all : mg "all" = none)     (D_is_place_of : Def P w K mg base 3 "is_place_of" ["places", "value"] (spP K cl 2 d_is_place_of)) :
    FnG P w K mg base 4 f fd ["places", "value"] (spP K cl 2 d_is_tie) := by
  refine fn_P (N := ["places", "value", "p"]) F sc_is_tie ?_
  rintro ⟨prog, w2, K2, mg2, base2, A, N, s0, H0, ⟨sc, lo, gl, ce, qu, fu, co, fr, bl⟩, outer, stack, ex, fn, calm, pn, xe⟩ e1 e2 e3 e4 e5 e6 e7 e8 e9 e10 E c tk hp
  dsimp only at e1 e2 e3 e4 e5 e6 e7 e8 e9 e10
  subst e1 e2 e3 e4 e5 e6 e7 e8 e9 e10
  exact ss_cons (s_ifS (t_w (w_or (t_not (t_tr (s_isi Ty.tuple (s_v 1) (hm := z_isinstance) (hm2 := z_tuple) (hb := rfl) (hn := by decide) (hd := by decide)))) (w_or (t_cmp (y_ne c) (s_b c_len rfl z_len rfl (a_cons (s_v 1) (a_nil))) (s_int) rfl) (w_or1 (t_not (t_tr (s_b (c_all c.calm) rfl z_all rfl (a_cons (s_frz (l_comp c (i_any (s_v 1)) (own := [("p", 2)]) (blkOk_by rfl) (by decide) (fun s H C cc fp => g_n 2 (c.blk).nd) (fun s H C cc fp => ts_nil) (fun s H C cc fp => q_call D_is_place_of (by decide) (c.blk) takes0 (a_cons (s_v 0) (a_cons (s_v 2) (a_nil))) (al_cons (al_cons (al_nil)))))) (a_nil))))))))) (ss_one (s_ret (s_bl))) (ss_nil))
    (ss_one (s_ret (s_cmp (y_lt c) (s_ix c (s_v 1) (s_int) (fun _ _ => rfl)) (s_ix c (s_v 1) (s_int) (fun _ _ => rfl)) rfl)))
abbrev s_are_ties : Stmt := top 11
def b_are_ties_1 : Sv := sRet (eB bAll (aC (eFrz (lComp (iZipD (aC (eV 1) (aC (eSl (eV 1) (oS (eC (.int 1))) (oN)) (aN)))) (gT [gN 2, gN 3]) (tYes) (e2 oLt (eV 2) (eV 3)) [2, 3])) (aN)))
def b_are_ties : Sv := sSeq (sIf (tOr (tNot (tT (eCall d_is_count (aC (eV 0) (aN))))) (tOr (tNot (tT (eIs Ty.tuple (eV 1)))) (tNot (tT (eB bAll (aC (eFrz (lComp (iA (eV 1)) (gN 4) (tYes) (eCall d_is_tie (aC (eV 0) (aC (eV 4) (aN)))) [4])) (aN))))))) (sRet (eC (.bl false))) (sPass))
    (b_are_ties_1)
def d_are_ties : Fn := fnP 5 b_are_ties
theorem sc_are_ties : FnScope ["places", "ties", "one", "two", "tie"] ["places", "ties"] (defScope s_are_ties) := ⟨rfl, rfl, rfl, by decide +kernel, rfl, by decide +kernel, by decide +kernel⟩
theorem fn_are_ties (F : Fun K "are_ties" "are_ties" s_are_ties f fd) (z_isinstance : mg "isinstance" = none) (z_tuple : mg "tuple" = none) (z_all : mg "all" = none) (z_zip : mg "zip" = none)     (D_is_count : Def P w K mg base 2 "is_count" ["value"] (spP K cl 1 d_is_count)) (D_is_tie : Def P w K mg base 4 "is_tie" ["places", "value"] (spP K cl 2 d_is_tie)) :
    FnG P w K mg base 5 f fd ["places", "ties"] (spP K cl 2 d_are_ties) := by
  refine fn_P (N := ["places", "ties", "one", "two", "tie"]) F sc_are_ties ?_
  rintro ⟨prog, w2, K2, mg2, base2, A, N, s0, H0, ⟨sc, lo, gl, ce, qu, fu, co, fr, bl⟩, outer, stack, ex, fn, calm, pn, xe⟩ e1 e2 e3 e4 e5 e6 e7 e8 e9 e10 E c tk hp
  dsimp only at e1 e2 e3 e4 e5 e6 e7 e8 e9 e10
  subst e1 e2 e3 e4 e5 e6 e7 e8 e9 e10
  exact ss_cons (s_ifS (t_w (w_or (t_not (t_tr (q_call D_is_count (by decide) c tk (a_cons (s_v 0) (a_nil)) (al_cons (al_nil))))) (w_or (t_not (t_tr (s_isi Ty.tuple (s_v 1) (hm := z_isinstance) (hm2 := z_tuple) (hb := rfl) (hn := by decide) (hd := by decide)))) (w_or1 (t_not (t_tr (s_b (c_all c.calm) rfl z_all rfl (a_cons (s_frz (l_comp c (i_any (s_v 1)) (own := [("tie", 4)]) (blkOk_by rfl) (by decide) (fun s H C cc fp => g_n 4 (c.blk).nd) (fun s H C cc fp => ts_nil) (fun s H C cc fp => q_call D_is_tie (by decide) (c.blk) takes0 (a_cons (s_v 0) (a_cons (s_v 4) (a_nil))) (al_cons (al_cons (al_nil)))))) (a_nil))))))))) (ss_one (s_ret (s_bl))) (ss_nil))
    (ss_one (s_ret (s_b (c_all c.calm) rfl z_all rfl (a_cons (s_frz (l_comp c (i_zip rfl z_zip (a_cons (s_v 1) (a_cons (s_sl (s_v 1) (o_some (s_int)) (o_none)) (a_nil)))) (own := [("one", 2), ("two", 3)]) (blkOk_by rfl) (by decide) (fun s H C cc fp => g_tup (c.blk).calm (gs_cons (g_n 2 (c.blk).nd) (gs_cons (g_n 3 (c.blk).nd) (gs_nil)))) (fun s H C cc fp => ts_nil) (fun s H C cc fp => s_cmp (y_lt (c.blk)) (s_v 2) (s_v 3) rfl))) (a_nil)))))
abbrev s_Web : Stmt := (clsB (top 13)).getD 0 (.Pass ⟨0, 0, 0, 0⟩)
def b_Web : Av := bIf (tNot (tT (eCall d_are_ties (aC (eV 1) (aC (eV 2) (aN)))))) (sRaise "BadWeb" ["web"] (aC (eTup (aC (eV 1) (aC (eV 2) (aN)))) (aN))) (aC (eV 1) (aC (eV 2) (aC (eCall d_near_lots (aC (eV 1) (aC (eV 2) (aN)))) (aN))))
def d_Web : Fn := mkO b_Web "Web" ["places", "ties", "near"] 3
theorem sc_Web : FnScope ["self", "places", "ties"] ["self", "places", "ties"] (defScope s_Web) := ⟨rfl, rfl, rfl, by decide +kernel, rfl, by decide +kernel, by decide +kernel⟩
theorem fn_Web {C : Addr} (F : Fun K "__init__" "Web.__init__" s_Web f fd) (hns : PySem.W.nsIn K mainGlobals "Web" = some (some (.ref C))) (cls : Cls K C) (na : ∀ n ∈ (["places", "ties", "near"] : List Str), NoAttr K C n)   (E_BadWeb : Exc P w K mg base "BadWeb" ["web"])   (D_near_lots : Def P w K mg base 1 "near_lots" ["places", "ties"] (spP K cl 2 d_near_lots)) (D_are_ties : Def P w K mg base 5 "are_ties" ["places", "ties"] (spP K cl 2 d_are_ties)) :
    FnG P w K mg base 6 f fd ["self", "places", "ties"] (spO K cl C 2 d_Web) := by
  refine fn_O (N := ["self", "places", "ties"]) F sc_Web hns (by decide) (by simp) (by simp) ?_
  rintro ⟨prog, w2, K2, mg2, base2, A, N, s0, H0, ⟨sc, lo, gl, ce, qu, fu, co, fr, bl⟩, outer, stack, ex, fn, calm, pn, xe⟩ e1 e2 e3 e4 e5 e6 e7 e8 e9 e10 E c tk hp
  dsimp only at e1 e2 e3 e4 e5 e6 e7 e8 e9 e10
  subst e1 e2 e3 e4 e5 e6 e7 e8 e9 e10
  exact fs_if (t_not (t_tr (q_call D_are_ties (by decide) c tk (a_cons (s_v 1) (a_cons (s_v 2) (a_nil))) (al_cons (al_cons (al_nil)))))) (ss_one (s_raise E_BadWeb c (by decide) tk (a_cons (s_tup (a_cons (s_v 1) (a_cons (s_v 2) (a_nil)))) (a_nil))))
    (fs_cons cls (na _ (by decide)) rfl (s_v 1)
    (fs_cons cls (na _ (by decide)) rfl (s_v 2)
    (fs_cons cls (na _ (by decide)) rfl (q_call D_near_lots (by decide) c tk (a_cons (s_v 1) (a_cons (s_v 2) (a_nil))) (al_cons (al_cons (al_nil))))
    (fs_nil) (by decide) (by decide) (by decide)) (by decide) (by decide) (by decide)) (by decide) (by decide) (by decide)) (fun _ _ _ _ _ h => h)
abbrev s_u_law_near : Stmt := top 49
def b_u_law_near_l1_1 : Sv := sApp (e2 oIx (eV 2) (eV 4)) (eV 3)
def b_u_law_near_l1 : Sv := sSeq (sApp (e2 oIx (eV 2) (eV 3)) (eV 4))
    (b_u_law_near_l1_1)
def b_u_law_near_2 : Sv := sRet (eFrz (lComp (iA (eV 2)) (gN 5) (tYes) (eFrz (lB mSortA (aC (eV 5) (aN)))) [5]))
def b_u_law_near_1 : Sv := sSeq (sForX (iX (eV 1)) (gT [gN 3, gN 4]) (b_u_law_near_l1))
    (b_u_law_near_2)
def b_u_law_near : Sv := sSeq (sAsg (gN 2) (eFrz (lComp (iR1 (aC (eV 0) (aN))) (gN 3) (tYes) (eMut (lLst (aN))) [3])))
    (b_u_law_near_1)
def d_u_law_near : Fn := fnP 6 b_u_law_near
theorem sc_u_law_near : FnScope ["n", "ties", "near", "p", "q", "lot"] ["n", "ties"] (defScope s_u_law_near) := ⟨rfl, rfl, rfl, by decide +kernel, rfl, by decide +kernel, by decide +kernel⟩
theorem fn_u_law_near (F : Fun K "_law_near" "_law_near" s_u_law_near f fd) (z_range : mg "range" = none) (z_sorted : mg "sorted" = none)      :
    FnG P w K mg base 1 f fd ["n", "ties"] (spP K cl 2 d_u_law_near) := by
  refine fn_P (N := ["n", "ties", "near", "p", "q", "lot"]) F sc_u_law_near ?_
  rintro ⟨prog, w2, K2, mg2, base2, A, N, s0, H0, ⟨sc, lo, gl, ce, qu, fu, co, fr, bl⟩, outer, stack, ex, fn, calm, pn, xe⟩ e1 e2 e3 e4 e5 e6 e7 e8 e9 e10 E c tk hp
  dsimp only at e1 e2 e3 e4 e5 e6 e7 e8 e9 e10
  subst e1 e2 e3 e4 e5 e6 e7 e8 e9 e10
  exact ss_cons (s_setComp (i := 2) c rfl rfl rfl (i_r1 rfl z_range (a_cons (s_v 0) (a_nil))) (own := [("p", 3)]) (blkOk_by rfl) (by decide) (fun s H C cc fp => g_n 3 (c.blk).nd) (fun s H C cc fp => ts_nil) (fun s H C cc fp => s_mut (l_lst (a_nil))))
    (ss_cons (s_forX hp c.calm (i_X (s_v 1)) (g_tup c.calm (gs_cons (g_n 3 c.nd) (gs_cons (g_n 4 c.nd) (gs_nil)))) (ss_cons (s_app (s_ix c (s_v 2) (s_v 3) (fun _ _ => rfl)) (s_v 4) (fun h1 h2 => pe_bm PySem.F.plainAttrs_list PySem.F.slot_list_append PySem.F.type_list_append mt_append h1 h2))
    (ss_one (s_app (s_ix c (s_v 2) (s_v 4) (fun _ _ => rfl)) (s_v 3) (fun h1 h2 => pe_bm PySem.F.plainAttrs_list PySem.F.slot_list_append PySem.F.type_list_append mt_append h1 h2)))))
    (ss_one (s_ret (s_frz (l_comp c (i_any (s_v 2)) (own := [("lot", 5)]) (blkOk_by rfl) (by decide) (fun s H C cc fp => g_n 5 (c.blk).nd) (fun s H C cc fp => ts_nil) (fun s H C cc fp => s_frz (l_b (c_sortA (c.blk)) rfl z_sorted rfl (a_cons (s_v 5) (a_nil)))))))))
abbrev s_u_law_uneven : Stmt := top 50
def b_u_law_uneven_l3 : Sv := sIf (tB (e2 oEq (e2 oIn (eV 6) (e2 oIx (eV 1) (eV 5))) (e2 oEq (eV 3) (eC (.str "tied"))))) (sSeq (sAsg (gN 7) (eB bLen (aC (eFrz (lComp (iA (e2 oIx (eV 1) (eV 5))) (gN 8) (tB (e2 oIn (eV 8) (e2 oIx (eV 1) (eV 6)))) (eV 8) [8])) (aN))))
    (sSeq (sIf (tB (e2 oIs (eV 4) (eC .non))) (sAsg (gN 4) (eV 7)) (sPass))
    (sIf (tB (e2 oNe (eV 7) (eV 4))) (sRet (eTup (aC (eV 3) (aC (eTup (aC (eV 5) (aC (eV 6) (aN)))) (aN))))) (sPass)))) (sPass)
def b_u_law_uneven_l2 : Sv := sFor (iR2 (aC (e2 oAdd (eV 5) (eC (.int 1))) (aC (eV 0) (aN)))) (gN 6) (b_u_law_uneven_l3)
def b_u_law_uneven_l1_1 : Sv := sFor (iR1 (aC (eV 0) (aN))) (gN 5) (b_u_law_uneven_l2)
def b_u_law_uneven_l1 : Sv := sSeq (sAsg (gN 4) (eC .non))
    (b_u_law_uneven_l1_1)
def b_u_law_uneven_4 : Sv := sRet (eC .non)
def b_u_law_uneven_3 : Sv := sSeq (sFor (iA (eFrz (lLst (aC (eC (.str "tied")) (aC (eC (.str "untied")) (aN)))))) (gN 3) (b_u_law_uneven_l1))
    (b_u_law_uneven_4)
def b_u_law_uneven_2 : Sv := sSeq (sIf (tB (e2 oNe (eV 2) (eFrz (lLst (aN))))) (sRet (eTup (aC (eC (.str "degree")) (aC (e2 oIx (eV 2) (eC (.int 0))) (aN))))) (sPass))
    (b_u_law_uneven_3)
def b_u_law_uneven_1 : Sv := sSeq (sAsg (gN 2) (eFrz (lComp (iR1 (aC (eV 0) (aN))) (gN 5) (tB (e2 oNe (eB bLen (aC (e2 oIx (eV 1) (eV 5)) (aN))) (eB bLen (aC (e2 oIx (eV 1) (eC (.int 0))) (aN))))) (eV 5) [5])))
    (b_u_law_uneven_2)
def b_u_law_uneven : Sv := sSeq (sIf (tOr (tB (e2 oEq (eV 0) (eC (.int 0)))) (tB (e2 oIn (eB bLen (aC (e2 oIx (eV 1) (eC (.int 0))) (aN))) (eFrz (lLst (aC (eC (.int 0)) (aC (e2 oSub (eV 0) (eC (.int 1))) (aN)))))))) (sRet (eTup (aC (eC (.str "degree")) (aC (eC (.int 0)) (aN))))) (sPass))
    (b_u_law_uneven_1)
def d_u_law_uneven : Fn := fnP 9 b_u_law_uneven
theorem sc_u_law_uneven : FnScope ["n", "near", "wrong", "word", "first", "p", "q", "many", "r"] ["n", "near"] (defScope s_u_law_uneven) := ⟨rfl, rfl, rfl, by decide +kernel, rfl, by decide +kernel, by decide +kernel⟩
theorem fn_u_law_uneven (F : Fun K "_law_uneven" "_law_uneven" s_u_law_uneven f fd) (z_len : mg "len" = none) (z_range : mg "range" = none)      :
    FnG P w K mg base 1 f fd ["n", "near"] (spP K cl 2 d_u_law_uneven) := by
  refine fn_P (N := ["n", "near", "wrong", "word", "first", "p", "q", "many", "r"]) F sc_u_law_uneven ?_
  rintro ⟨prog, w2, K2, mg2, base2, A, N, s0, H0, ⟨sc, lo, gl, ce, qu, fu, co, fr, bl⟩, outer, stack, ex, fn, calm, pn, xe⟩ e1 e2 e3 e4 e5 e6 e7 e8 e9 e10 E c tk hp
  dsimp only at e1 e2 e3 e4 e5 e6 e7 e8 e9 e10
  subst e1 e2 e3 e4 e5 e6 e7 e8 e9 e10
  exact ss_cons (s_ifS (t_w (w_or (t_cmp (y_eq c) (s_v 0) (s_int) rfl) (w_or1 (t_cmp (y_in c) (s_b c_len rfl z_len rfl (a_cons (s_ix c (s_v 1) (s_int) (fun _ _ => rfl)) (a_nil))) (s_frz (l_lst (a_cons (s_int) (a_cons (s_op y_sub (s_v 0) (s_int)) (a_nil))))) rfl)))) (ss_one (s_ret (s_tup (a_cons (s_str) (a_cons (s_int) (a_nil)))))) (ss_nil))
    (ss_cons (s_setComp (i := 2) c rfl rfl rfl (i_r1 rfl z_range (a_cons (s_v 0) (a_nil))) (own := [("p", 5)]) (blkOk_by rfl) (by decide) (fun s H C cc fp => g_n 5 (c.blk).nd) (fun s H C cc fp => ts_one (t_cmp (y_ne (c.blk)) (s_b c_len rfl z_len rfl (a_cons (s_ix (c.blk) (s_v 1) (s_v 5) (fun _ _ => rfl)) (a_nil))) (s_b c_len rfl z_len rfl (a_cons (s_ix (c.blk) (s_v 1) (s_int) (fun _ _ => rfl)) (a_nil))) rfl)) (fun s H C cc fp => s_v 5))
    (ss_cons (s_ifS (t_cmp (y_ne c) (s_v 2) (s_frz (l_lst (a_nil))) rfl) (ss_one (s_ret (s_tup (a_cons (s_str) (a_cons (s_ix c (s_v 2) (s_int) (fun _ _ => rfl)) (a_nil)))))) (ss_nil))
    (ss_cons (s_for hp c.calm (i_any (s_frz (l_lst (a_cons (s_str) (a_cons (s_str) (a_nil)))))) (g_n 3 c.nd) (ss_cons (s_set (j := 4) c.nd (s_non))
    (ss_one (s_for hp c.calm (i_r1 rfl z_range (a_cons (s_v 0) (a_nil))) (g_n 5 c.nd) (ss_one (s_for hp c.calm (i_r2 rfl z_range (a_cons (s_op y_add (s_v 5) (s_int)) (a_cons (s_v 0) (a_nil)))) (g_n 6 c.nd) (ss_one (s_ifS (t_cmp (y_eq c) (s_cmp (y_in c) (s_v 6) (s_ix c (s_v 1) (s_v 5) (fun _ _ => rfl)) rfl) (s_cmp (y_eq c) (s_v 3) (s_str) rfl) rfl) (ss_cons (s_set (j := 7) c.nd (s_b c_len rfl z_len rfl (a_cons (s_frz (l_comp c (i_any (s_ix c (s_v 1) (s_v 5) (fun _ _ => rfl))) (own := [("r", 8)]) (blkOk_by rfl) (by decide) (fun s H C cc fp => g_n 8 (c.blk).nd) (fun s H C cc fp => ts_one (t_cmp (y_in (c.blk)) (s_v 8) (s_ix (c.blk) (s_v 1) (s_v 6) (fun _ _ => rfl)) rfl)) (fun s H C cc fp => s_v 8))) (a_nil))))
    (ss_cons (s_ifS (t_cmp y_is (s_v 4) (s_non) rfl) (ss_one (s_set (j := 4) c.nd (s_v 7))) (ss_nil))
    (ss_one (s_ifS (t_cmp (y_ne c) (s_v 7) (s_v 4) rfl) (ss_one (s_ret (s_tup (a_cons (s_v 3) (a_cons (s_tup (a_cons (s_v 5) (a_cons (s_v 6) (a_nil)))) (a_nil)))))) (ss_nil))))) (ss_nil)))))))))
    (ss_one (s_ret (s_non))))))
abbrev s_is_web : Stmt := top 14
def b_is_web : Sv := sRet (e1 (isO "Web") (eV 0))
def d_is_web : Fn := fnP 1 b_is_web
theorem sc_is_web : FnScope ["value"] ["value"] (defScope s_is_web) := ⟨rfl, rfl, rfl, by decide +kernel, rfl, by decide +kernel, by decide +kernel⟩
theorem fn_is_web (F : Fun K "is_web" "is_web" s_is_web f fd) (z_isinstance : mg "isinstance" = none) (O_Web : Ocl K mg "Web" ["places", "ties", "near"])     :
    FnG P w K mg base 1 f fd ["value"] (spP K cl 1 d_is_web) := by
  refine fn_P (N := ["value"]) F sc_is_web ?_
  rintro ⟨prog, w2, K2, mg2, base2, A, N, s0, H0, ⟨sc, lo, gl, ce, qu, fu, co, fr, bl⟩, outer, stack, ex, fn, calm, pn, xe⟩ e1 e2 e3 e4 e5 e6 e7 e8 e9 e10 E c tk hp
  dsimp only at e1 e2 e3 e4 e5 e6 e7 e8 e9 e10
  subst e1 e2 e3 e4 e5 e6 e7 e8 e9 e10
  exact ss_one (s_ret (s_iO O_Web z_isinstance (s_v 0)))
abbrev s_need_web : Stmt := top 15
def b_need_web : Sv := sIf (tNot (tT (eCall d_is_web (aC (eV 0) (aN))))) (sRaise "BadWeb" ["web"] (aC (eV 0) (aN))) (sPass)
def d_need_web : Fn := fnP 1 b_need_web
theorem sc_need_web : FnScope ["web"] ["web"] (defScope s_need_web) := ⟨rfl, rfl, rfl, by decide +kernel, rfl, by decide +kernel, by decide +kernel⟩
theorem fn_need_web (F : Fun K "need_web" "need_web" s_need_web f fd)   (E_BadWeb : Exc P w K mg base "BadWeb" ["web"])   (D_is_web : Def P w K mg base 1 "is_web" ["value"] (spP K cl 1 d_is_web)) :
    FnG P w K mg base 3 f fd ["web"] (spP K cl 1 d_need_web) := by
  refine fn_P (N := ["web"]) F sc_need_web ?_
  rintro ⟨prog, w2, K2, mg2, base2, A, N, s0, H0, ⟨sc, lo, gl, ce, qu, fu, co, fr, bl⟩, outer, stack, ex, fn, calm, pn, xe⟩ e1 e2 e3 e4 e5 e6 e7 e8 e9 e10 E c tk hp
  dsimp only at e1 e2 e3 e4 e5 e6 e7 e8 e9 e10
  subst e1 e2 e3 e4 e5 e6 e7 e8 e9 e10
  exact ss_one (s_ifS (t_not (t_tr (q_call D_is_web (by decide) c tk (a_cons (s_v 0) (a_nil)) (al_cons (al_nil))))) (ss_one (s_raise E_BadWeb c (by decide) tk (a_cons (s_v 0) (a_nil)))) (ss_nil))
abbrev s_degrees_in : Stmt := top 19
def b_degrees_in : Sv := sRet (eB bTuple (aC (eFrz (lComp (iA (e1 (oFld "Web" "near") (eV 0))) (gN 1) (tYes) (eB bLen (aC (eV 1) (aN))) [1])) (aN)))
def d_degrees_in : Fn := fnP 2 b_degrees_in
theorem sc_degrees_in : FnScope ["web", "lot"] ["web"] (defScope s_degrees_in) := ⟨rfl, rfl, rfl, by decide +kernel, rfl, by decide +kernel, by decide +kernel⟩
theorem fn_degrees_in (F : Fun K "degrees_in" "degrees_in" s_degrees_in f fd) (z_len : mg "len" = none) (z_tuple : mg "tuple" = none) (O_Web : Ocl K mg "Web" ["places", "ties", "near"])     :
    FnG P w K mg base 1 f fd ["web"] (spP K cl 1 d_degrees_in) := by
  refine fn_P (N := ["web", "lot"]) F sc_degrees_in ?_
  rintro ⟨prog, w2, K2, mg2, base2, A, N, s0, H0, ⟨sc, lo, gl, ce, qu, fu, co, fr, bl⟩, outer, stack, ex, fn, calm, pn, xe⟩ e1 e2 e3 e4 e5 e6 e7 e8 e9 e10 E c tk hp
  dsimp only at e1 e2 e3 e4 e5 e6 e7 e8 e9 e10
  subst e1 e2 e3 e4 e5 e6 e7 e8 e9 e10
  exact ss_one (s_ret (s_bT c_tuple rfl z_tuple rfl (a_cons (s_frz (l_comp c (i_any (s_fl O_Web "near" (by decide) (s_v 0))) (own := [("lot", 1)]) (blkOk_by rfl) (by decide) (fun s H C cc fp => g_n 1 (c.blk).nd) (fun s H C cc fp => ts_nil) (fun s H C cc fp => s_b c_len rfl z_len rfl (a_cons (s_v 1) (a_nil))))) (a_nil))))
abbrev s_tied_in : Stmt := top 18
def b_tied_in : Sv := sRet (e2 oIn (eV 2) (e2 oIx (e1 (oFld "Web" "near") (eV 0)) (eV 1)))
def d_tied_in : Fn := fnP 3 b_tied_in
theorem sc_tied_in : FnScope ["web", "p", "q"] ["web", "p", "q"] (defScope s_tied_in) := ⟨rfl, rfl, rfl, by decide +kernel, rfl, by decide +kernel, by decide +kernel⟩
theorem fn_tied_in (F : Fun K "tied_in" "tied_in" s_tied_in f fd)  (O_Web : Ocl K mg "Web" ["places", "ties", "near"])     :
    FnG P w K mg base 1 f fd ["web", "p", "q"] (spP K cl 3 d_tied_in) := by
  refine fn_P (N := ["web", "p", "q"]) F sc_tied_in ?_
  rintro ⟨prog, w2, K2, mg2, base2, A, N, s0, H0, ⟨sc, lo, gl, ce, qu, fu, co, fr, bl⟩, outer, stack, ex, fn, calm, pn, xe⟩ e1 e2 e3 e4 e5 e6 e7 e8 e9 e10 E c tk hp
  dsimp only at e1 e2 e3 e4 e5 e6 e7 e8 e9 e10
  subst e1 e2 e3 e4 e5 e6 e7 e8 e9 e10
  exact ss_one (s_ret (s_cmp (y_in c) (s_v 2) (s_ix c (s_fl O_Web "near" (by decide) (s_v 0)) (s_v 1) (fun _ _ => rfl)) rfl))
abbrev s_pairs_in : Stmt := top 31
def b_pairs_in : Sv := sRet (eFrz (lComp2 (iR1 (aC (e1 (oFld "Web" "places") (eV 0)) (aN))) (gN 2) (tYes) (iR2 (aC (e2 oAdd (eV 2) (eC (.int 1))) (aC (e1 (oFld "Web" "places") (eV 0)) (aN)))) (gN 3) (tB (e2 oEq (eCall d_tied_in (aC (eV 0) (aC (eV 2) (aC (eV 3) (aN))))) (eV 1))) (eTup (aC (eV 2) (aC (eV 3) (aN)))) [2, 3] [3]))
def d_pairs_in : Fn := fnP 4 b_pairs_in
theorem sc_pairs_in : FnScope ["web", "is_tied", "p", "q"] ["web", "is_tied"] (defScope s_pairs_in) := ⟨rfl, rfl, rfl, by decide +kernel, rfl, by decide +kernel, by decide +kernel⟩
theorem fn_pairs_in (F : Fun K "pairs_in" "pairs_in" s_pairs_in f fd) (z_range : mg "range" = none) (O_Web : Ocl K mg "Web" ["places", "ties", "near"])    (D_tied_in : Def P w K mg base 1 "tied_in" ["web", "p", "q"] (spP K cl 3 d_tied_in)) :
    FnG P w K mg base 2 f fd ["web", "is_tied"] (spP K cl 2 d_pairs_in) := by
  refine fn_P (N := ["web", "is_tied", "p", "q"]) F sc_pairs_in ?_
  rintro ⟨prog, w2, K2, mg2, base2, A, N, s0, H0, ⟨sc, lo, gl, ce, qu, fu, co, fr, bl⟩, outer, stack, ex, fn, calm, pn, xe⟩ e1 e2 e3 e4 e5 e6 e7 e8 e9 e10 E c tk hp
  dsimp only at e1 e2 e3 e4 e5 e6 e7 e8 e9 e10
  subst e1 e2 e3 e4 e5 e6 e7 e8 e9 e10
  exact ss_one (s_ret (s_frz (l_comp2 c (i_r1 rfl z_range (a_cons (s_fl O_Web "places" (by decide) (s_v 0)) (a_nil))) (own := [("p", 2), ("q", 3)]) (vs1 := [3]) (blkOk_by rfl) (by decide) (by decide) (by decide) (fun s H C cc fp => g_n 2 (c.blk).nd) (fun s H C cc fp => ts_nil) (fun s H C cc fp => i_r2 rfl z_range (a_cons (s_op y_add (s_v 2) (s_int)) (a_cons (s_fl O_Web "places" (by decide) (s_v 0)) (a_nil)))) (fun s H C cc fp => g_n 3 (c.blk).nd) (fun s H C cc fp => ts_one (t_cmp (y_eq (c.blk)) (q_call D_tied_in (by decide) (c.blk) takes0 (a_cons (s_v 0) (a_cons (s_v 2) (a_cons (s_v 3) (a_nil)))) (al_cons (al_cons (al_cons (al_nil))))) (s_v 1) rfl)) (fun s H C cc fp => s_tup (a_cons (s_v 2) (a_cons (s_v 3) (a_nil)))))))
abbrev s_common_in : Stmt := top 27
def b_common_in_1 : Sv := sRet (eB bTuple (aC (eFrz (lComp (iA (e2 oIx (e1 (oFld "Web" "near") (eV 0)) (eV 1))) (gN 4) (tB (e2 oIn (eV 4) (eV 3))) (eV 4) [4])) (aN)))
def b_common_in : Sv := sSeq (sAsg (gN 3) (eDc (iA (e2 oIx (e1 (oFld "Web" "near") (eV 0)) (eV 2))) (gN 4) (tYes) (eV 4) (eC (.bl true)) [4]))
    (b_common_in_1)
def d_common_in : Fn := fnP 5 b_common_in
theorem sc_common_in : FnScope ["web", "p", "q", "known", "r"] ["web", "p", "q"] (defScope s_common_in) := ⟨rfl, rfl, rfl, by decide +kernel, rfl, by decide +kernel, by decide +kernel⟩
theorem fn_common_in (F : Fun K "common_in" "common_in" s_common_in f fd) (z_tuple : mg "tuple" = none) (O_Web : Ocl K mg "Web" ["places", "ties", "near"])     :
    FnG P w K mg base 1 f fd ["web", "p", "q"] (spP K cl 3 d_common_in) := by
  refine fn_P (N := ["web", "p", "q", "known", "r"]) F sc_common_in ?_
  rintro ⟨prog, w2, K2, mg2, base2, A, N, s0, H0, ⟨sc, lo, gl, ce, qu, fu, co, fr, bl⟩, outer, stack, ex, fn, calm, pn, xe⟩ e1 e2 e3 e4 e5 e6 e7 e8 e9 e10 E c tk hp
  dsimp only at e1 e2 e3 e4 e5 e6 e7 e8 e9 e10
  subst e1 e2 e3 e4 e5 e6 e7 e8 e9 e10
  exact ss_cons (s_set (j := 3) c.nd (s_dc c (i_any (s_ix c (s_fl O_Web "near" (by decide) (s_v 0)) (s_v 2) (fun _ _ => rfl))) (own := [("r", 4)]) (blkOk_by rfl) (by decide) (fun s H C cc fp => g_n 4 (c.blk).nd) (fun s H C cc fp => ts_nil) (fun s H C cc fp => s_v 4) (fun s H C cc fp => s_bl)))
    (ss_one (s_ret (s_bT c_tuple rfl z_tuple rfl (a_cons (s_frz (l_comp c (i_any (s_ix c (s_fl O_Web "near" (by decide) (s_v 0)) (s_v 1) (fun _ _ => rfl))) (own := [("r", 4)]) (blkOk_by rfl) (by decide) (fun s H C cc fp => g_n 4 (c.blk).nd) (fun s H C cc fp => ts_one (t_cmp (y_in (c.blk)) (s_v 4) (s_v 3) rfl)) (fun s H C cc fp => s_v 4))) (a_nil)))))
abbrev s_uneven_in : Stmt := top 32
def b_uneven_in_l1 : Sv := sIf (tB (e2 oNe (eV 3) (e2 oIx (eV 1) (eC (.int 0))))) (sRet (eTup (aC (eC (.str "degree")) (aC (eV 2) (aN))))) (sPass)
def b_uneven_in_l2_3 : Sv := sIf (tT (eV 8)) (sRet (eTup (aC (eV 4) (aC (e2 oIx (eV 8) (eC (.int 0))) (aN))))) (sPass)
def b_uneven_in_l2_2 : Sv := sSeq (sAsg (gN 8) (eFrz (lComp (iZipD (aC (eV 6) (aC (eV 7) (aN)))) (gT [gN 10, gN 11]) (tB (e2 oNe (eV 11) (e2 oIx (eV 7) (eC (.int 0))))) (eV 10) [10, 11])))
    (b_uneven_in_l2_3)
def b_uneven_in_l2_1 : Sv := sSeq (sAsg (gN 7) (eFrz (lComp (iA (eV 6)) (gT [gN 2, gN 9]) (tYes) (eB bLen (aC (eCall d_common_in (aC (eV 0) (aC (eV 2) (aC (eV 9) (aN))))) (aN))) [2, 9])))
    (b_uneven_in_l2_2)
def b_uneven_in_l2 : Sv := sSeq (sAsg (gN 6) (eCall d_pairs_in (aC (eV 0) (aC (eV 5) (aN)))))
    (b_uneven_in_l2_1)
def b_uneven_in_4 : Sv := sRet (eC .non)
def b_uneven_in_3 : Sv := sSeq (sFor (iA (eTup (aC (eTup (aC (eC (.str "tied")) (aC (eC (.bl true)) (aN)))) (aC (eTup (aC (eC (.str "untied")) (aC (eC (.bl false)) (aN)))) (aN))))) (gT [gN 4, gN 5]) (b_uneven_in_l2))
    (b_uneven_in_4)
def b_uneven_in_2 : Sv := sSeq (sFor (iEnumV (aC (eV 1) (aN))) (gT [gN 2, gN 3]) (b_uneven_in_l1))
    (b_uneven_in_3)
def b_uneven_in_1 : Sv := sSeq (sIf (tOr (tNot (tT (eV 1))) (tB (e2 oIn (e2 oIx (eV 1) (eC (.int 0))) (eTup (aC (eC (.int 0)) (aC (e2 oSub (e1 (oFld "Web" "places") (eV 0)) (eC (.int 1))) (aN))))))) (sRet (eTup (aC (eC (.str "degree")) (aC (eC (.int 0)) (aN))))) (sPass))
    (b_uneven_in_2)
def b_uneven_in : Sv := sSeq (sAsg (gN 1) (eCall d_degrees_in (aC (eV 0) (aN))))
    (b_uneven_in_1)
def d_uneven_in : Fn := fnP 12 b_uneven_in
theorem sc_uneven_in : FnScope ["web", "degrees", "p", "degree", "word", "is_tied", "pairs", "many", "wrong", "q", "pair", "count"] ["web"] (defScope s_uneven_in) := ⟨rfl, rfl, rfl, by decide +kernel, rfl, by decide +kernel, by decide +kernel⟩
theorem fn_uneven_in (F : Fun K "uneven_in" "uneven_in" s_uneven_in f fd) (z_enumerate : mg "enumerate" = none) (z_len : mg "len" = none) (z_zip : mg "zip" = none) (O_Web : Ocl K mg "Web" ["places", "ties", "near"])    (D_degrees_in : Def P w K mg base 1 "degrees_in" ["web"] (spP K cl 1 d_degrees_in)) (D_pairs_in : Def P w K mg base 2 "pairs_in" ["web", "is_tied"] (spP K cl 2 d_pairs_in)) (D_common_in : Def P w K mg base 1 "common_in" ["web", "p", "q"] (spP K cl 3 d_common_in)) :
    FnG P w K mg base 3 f fd ["web"] (spP K cl 1 d_uneven_in) := by
  refine fn_P (N := ["web", "degrees", "p", "degree", "word", "is_tied", "pairs", "many", "wrong", "q", "pair", "count"]) F sc_uneven_in ?_
  rintro ⟨prog, w2, K2, mg2, base2, A, N, s0, H0, ⟨sc, lo, gl, ce, qu, fu, co, fr, bl⟩, outer, stack, ex, fn, calm, pn, xe⟩ e1 e2 e3 e4 e5 e6 e7 e8 e9 e10 E c tk hp
  dsimp only at e1 e2 e3 e4 e5 e6 e7 e8 e9 e10
  subst e1 e2 e3 e4 e5 e6 e7 e8 e9 e10
  exact ss_cons (s_set (j := 1) c.nd (q_call D_degrees_in (by decide) c tk (a_cons (s_v 0) (a_nil)) (al_cons (al_nil))))
    (ss_cons (s_ifS (t_w (w_or (t_not (t_tr (s_v 1))) (w_or1 (t_cmp (y_in c) (s_ix c (s_v 1) (s_int) (fun _ _ => rfl)) (s_tup (a_cons (s_int) (a_cons (s_op y_sub (s_fl O_Web "places" (by decide) (s_v 0)) (s_int)) (a_nil)))) rfl)))) (ss_one (s_ret (s_tup (a_cons (s_str) (a_cons (s_int) (a_nil)))))) (ss_nil))
    (ss_cons (s_for hp c.calm (i_enumV rfl z_enumerate (a_cons (s_v 1) (a_nil))) (g_tup c.calm (gs_cons (g_n 2 c.nd) (gs_cons (g_n 3 c.nd) (gs_nil)))) (ss_one (s_ifS (t_cmp (y_ne c) (s_v 3) (s_ix c (s_v 1) (s_int) (fun _ _ => rfl)) rfl) (ss_one (s_ret (s_tup (a_cons (s_str) (a_cons (s_v 2) (a_nil)))))) (ss_nil))))
    (ss_cons (s_for hp c.calm (i_any (s_tup (a_cons (s_tup (a_cons (s_str) (a_cons (s_bl) (a_nil)))) (a_cons (s_tup (a_cons (s_str) (a_cons (s_bl) (a_nil)))) (a_nil))))) (g_tup c.calm (gs_cons (g_n 4 c.nd) (gs_cons (g_n 5 c.nd) (gs_nil)))) (ss_cons (s_set (j := 6) c.nd (q_call D_pairs_in (by decide) c tk (a_cons (s_v 0) (a_cons (s_v 5) (a_nil))) (al_cons (al_cons (al_nil)))))
    (ss_cons (s_set (j := 7) c.nd (s_frz (l_comp c (i_any (s_v 6)) (own := [("p", 2), ("q", 9)]) (blkOk_by rfl) (by decide) (fun s H C cc fp => g_tup (c.blk).calm (gs_cons (g_n 2 (c.blk).nd) (gs_cons (g_n 9 (c.blk).nd) (gs_nil)))) (fun s H C cc fp => ts_nil) (fun s H C cc fp => s_b c_len rfl z_len rfl (a_cons (q_call D_common_in (by decide) (c.blk) takes0 (a_cons (s_v 0) (a_cons (s_v 2) (a_cons (s_v 9) (a_nil)))) (al_cons (al_cons (al_cons (al_nil))))) (a_nil))))))
    (ss_cons (s_setComp (i := 8) c rfl rfl rfl (i_zip rfl z_zip (a_cons (s_v 6) (a_cons (s_v 7) (a_nil)))) (own := [("pair", 10), ("count", 11)]) (blkOk_by rfl) (by decide) (fun s H C cc fp => g_tup (c.blk).calm (gs_cons (g_n 10 (c.blk).nd) (gs_cons (g_n 11 (c.blk).nd) (gs_nil)))) (fun s H C cc fp => ts_one (t_cmp (y_ne (c.blk)) (s_v 11) (s_ix (c.blk) (s_v 7) (s_int) (fun _ _ => rfl)) rfl)) (fun s H C cc fp => s_v 10))
    (ss_one (s_ifS (t_tr (s_v 8)) (ss_one (s_ret (s_tup (a_cons (s_v 4) (a_cons (s_ix c (s_v 8) (s_int) (fun _ _ => rfl)) (a_nil)))))) (ss_nil)))))))
    (ss_one (s_ret (s_non))))))
abbrev s_uneven : Stmt := top 33
def b_uneven_1 : Sv := sRet (eCall d_uneven_in (aC (eV 0) (aN)))
def b_uneven : Sv := sSeq (sExpr (eCall d_need_web (aC (eV 0) (aN))))
    (b_uneven_1)
def d_uneven : Fn := fnP 1 b_uneven
theorem sc_uneven : FnScope ["web"] ["web"] (defScope s_uneven) := ⟨rfl, rfl, rfl, by decide +kernel, rfl, by decide +kernel, by decide +kernel⟩
theorem fn_uneven (F : Fun K "uneven" "uneven" s_uneven f fd)      (D_need_web : Def P w K mg base 3 "need_web" ["web"] (spP K cl 1 d_need_web)) (D_uneven_in : Def P w K mg base 3 "uneven_in" ["web"] (spP K cl 1 d_uneven_in)) :
    FnG P w K mg base 4 f fd ["web"] (spP K cl 1 d_uneven) := by
  refine fn_P (N := ["web"]) F sc_uneven ?_
  rintro ⟨prog, w2, K2, mg2, base2, A, N, s0, H0, ⟨sc, lo, gl, ce, qu, fu, co, fr, bl⟩, outer, stack, ex, fn, calm, pn, xe⟩ e1 e2 e3 e4 e5 e6 e7 e8 e9 e10 E c tk hp
  dsimp only at e1 e2 e3 e4 e5 e6 e7 e8 e9 e10
  subst e1 e2 e3 e4 e5 e6 e7 e8 e9 e10
  exact ss_cons (s_expr (q_call D_need_web (by decide) c tk (a_cons (s_v 0) (a_nil)) (al_cons (al_nil))))
    (ss_one (s_ret (q_call D_uneven_in (by decide) c tk (a_cons (s_v 0) (a_nil)) (al_cons (al_nil)))))
abbrev s_u_law_draw : Stmt := top 43
def b_u_law_draw_4 : Sv := sRet (e2 oMod (e2 oDiv (eB bInt (aC (e2 oMod (e2 oPow (eV 4) (eC (.int 17))) (eC (.int 2305843009213693951))) (aN))) (eC (.int 256))) (eV 1))
def b_u_law_draw_3 : Sv := sSeq (sAsg (gN 4) (e2 oAdd (e2 oAdd (e2 oIx (eV 0) (eC (.str "fold"))) (e2 oMul (e2 oIx (eV 0) (eC (.str "count"))) (eC (.int 9341)))) (eC (.int 107))))
    (b_u_law_draw_4)
def b_u_law_draw_2 : Sv := sSeq (sIf (tB (e2 oGt (e2 oIx (eV 0) (eC (.str "digits"))) (eC (.int 0)))) (sSeq (sAsg (gN 3) (e2 oMod (eB bInt (aC (e2 oIx (eV 0) (eC (.str "digits"))) (aN))) (eV 1)))
    (sSeq (sStore (eV 0) (eC (.str "digits")) (e2 oDiv (e2 oIx (eV 0) (eC (.str "digits"))) (eV 1)))
    (sRet (eV 3)))) (sPass))
    (b_u_law_draw_3)
def b_u_law_draw_1 : Sv := sSeq (sIf (tAnd (tB (e2 oEq (e2 oIx (eV 0) (eC (.str "digits"))) (eC (.int 0)))) (tB (e2 oLt (e2 oIx (eV 0) (eC (.str "at"))) (eB bLen (aC (e2 oIx (eV 0) (eC (.str "cells"))) (aN)))))) (sSeq (sAsg (gN 2) (e2 oIx (e2 oIx (eV 0) (eC (.str "cells"))) (e2 oIx (eV 0) (eC (.str "at")))))
    (sSeq (sStore (eV 0) (eC (.str "at")) (e2 oAdd (e2 oIx (eV 0) (eC (.str "at"))) (eC (.int 1))))
    (sIf (tB (e2 oGe (eV 2) (e2 oPow (eC (.int 10)) (eC (.int 18))))) (sStore (eV 0) (eC (.str "digits")) (e2 oSub (eV 2) (e2 oPow (eC (.int 10)) (eC (.int 18))))) (sStore (eV 0) (eC (.str "fold")) (e2 oMod (eB bInt (aC (e2 oAdd (e2 oMul (e2 oIx (eV 0) (eC (.str "fold"))) (eC (.int 84421))) (eV 2)) (aN))) (eC (.int 2147482873))))))) (sPass))
    (b_u_law_draw_2)
def b_u_law_draw : Sv := sSeq (sStore (eV 0) (eC (.str "count")) (e2 oAdd (e2 oIx (eV 0) (eC (.str "count"))) (eC (.int 1))))
    (b_u_law_draw_1)
def d_u_law_draw : Fn := fnP 5 b_u_law_draw
theorem sc_u_law_draw : FnScope ["pen", "many", "cell", "digit", "blend"] ["pen", "many"] (defScope s_u_law_draw) := ⟨rfl, rfl, rfl, by decide +kernel, rfl, by decide +kernel, by decide +kernel⟩
theorem fn_u_law_draw (F : Fun K "_law_draw" "_law_draw" s_u_law_draw f fd) (z_len : mg "len" = none) (z_int : mg "int" = none)      :
    FnG P w K mg base 1 f fd ["pen", "many"] (spP K cl 2 d_u_law_draw) := by
  refine fn_P (N := ["pen", "many", "cell", "digit", "blend"]) F sc_u_law_draw ?_
  rintro ⟨prog, w2, K2, mg2, base2, A, N, s0, H0, ⟨sc, lo, gl, ce, qu, fu, co, fr, bl⟩, outer, stack, ex, fn, calm, pn, xe⟩ e1 e2 e3 e4 e5 e6 e7 e8 e9 e10 E c tk hp
  dsimp only at e1 e2 e3 e4 e5 e6 e7 e8 e9 e10
  subst e1 e2 e3 e4 e5 e6 e7 e8 e9 e10
  exact ss_cons (s_store c (s_v 0) (s_str) (s_op y_add (s_ix c (s_v 0) (s_str) (fun _ _ => rfl)) (s_int)))
    (ss_cons (s_ifS (t_w (w_and (t_cmp (y_eq c) (s_ix c (s_v 0) (s_str) (fun _ _ => rfl)) (s_int) rfl) (w_and1 (t_cmp (y_lt c) (s_ix c (s_v 0) (s_str) (fun _ _ => rfl)) (s_b c_len rfl z_len rfl (a_cons (s_ix c (s_v 0) (s_str) (fun _ _ => rfl)) (a_nil))) rfl)))) (ss_cons (s_set (j := 2) c.nd (s_ix c (s_ix c (s_v 0) (s_str) (fun _ _ => rfl)) (s_ix c (s_v 0) (s_str) (fun _ _ => rfl)) (fun _ _ => rfl)))
    (ss_cons (s_store c (s_v 0) (s_str) (s_op y_add (s_ix c (s_v 0) (s_str) (fun _ _ => rfl)) (s_int)))
    (ss_one (s_ifS (t_cmp y_ge (s_v 2) (s_op y_pow (s_int) (s_int)) rfl) (ss_one (s_store c (s_v 0) (s_str) (s_op y_sub (s_v 2) (s_op y_pow (s_int) (s_int))))) (ss_one (s_store c (s_v 0) (s_str) (s_op y_mod (s_bT c_int rfl z_int rfl (a_cons (s_op y_add (s_op y_mul (s_ix c (s_v 0) (s_str) (fun _ _ => rfl)) (s_int)) (s_v 2)) (a_nil))) (s_int)))))))) (ss_nil))
    (ss_cons (s_ifS (t_cmp y_gt (s_ix c (s_v 0) (s_str) (fun _ _ => rfl)) (s_int) rfl) (ss_cons (s_set (j := 3) c.nd (s_op y_mod (s_bT c_int rfl z_int rfl (a_cons (s_ix c (s_v 0) (s_str) (fun _ _ => rfl)) (a_nil))) (s_v 1)))
    (ss_cons (s_store c (s_v 0) (s_str) (s_op y_div (s_ix c (s_v 0) (s_str) (fun _ _ => rfl)) (s_v 1)))
    (ss_one (s_ret (s_v 3))))) (ss_nil))
    (ss_cons (s_set (j := 4) c.nd (s_op y_add (s_op y_add (s_ix c (s_v 0) (s_str) (fun _ _ => rfl)) (s_op y_mul (s_ix c (s_v 0) (s_str) (fun _ _ => rfl)) (s_int))) (s_int)))
    (ss_one (s_ret (s_op y_mod (s_op y_div (s_bT c_int rfl z_int rfl (a_cons (s_op y_mod (s_op y_pow (s_v 4) (s_int)) (s_int)) (a_nil))) (s_int)) (s_v 1)))))))
abbrev s_u_law_ties : Stmt := top 47
def b_u_law_ties_l2_3 : Sv := sIf (tT (eV 6)) (sApp (eV 3) (eTup (aC (eV 4) (aC (eV 5) (aN))))) (sPass)
def b_u_law_ties_l2_2 : Sv := sSeq (sIf (tB (e2 oEq (eV 2) (eC (.int 1)))) (sAsg (gN 6) (e2 oGt (eCall d_u_law_draw (aC (eV 0) (aC (eC (.int 4)) (aN)))) (eC (.int 0)))) (sPass))
    (b_u_law_ties_l2_3)
def b_u_law_ties_l2_1 : Sv := sSeq (sIf (tB (e2 oEq (eV 2) (eC (.int 0)))) (sAsg (gN 6) (eOr (e2 oEq (eV 5) (e2 oAdd (eV 4) (eC (.int 1)))) (e2 oEq (eCall d_u_law_draw (aC (eV 0) (aC (eC (.int 7)) (aN)))) (eC (.int 0))))) (sPass))
    (b_u_law_ties_l2_2)
def b_u_law_ties_l2 : Sv := sSeq (sAsg (gN 6) (e2 oEq (eCall d_u_law_draw (aC (eV 0) (aC (eC (.int 2)) (aN)))) (eC (.int 0))))
    (b_u_law_ties_l2_1)
def b_u_law_ties_l1 : Sv := sFor (iR2 (aC (e2 oAdd (eV 4) (eC (.int 1))) (aC (eV 1) (aN)))) (gN 5) (b_u_law_ties_l2)
def b_u_law_ties_2 : Sv := sRet (eB bTuple (aC (eV 3) (aN)))
def b_u_law_ties_1 : Sv := sSeq (sFor (iR1 (aC (eV 1) (aN))) (gN 4) (b_u_law_ties_l1))
    (b_u_law_ties_2)
def b_u_law_ties : Sv := sSeq (sPar 2 3 (aC (eCall d_u_law_draw (aC (eV 0) (aC (eC (.int 4)) (aN)))) (aC (eMut (lLst (aN))) aN)))
    (b_u_law_ties_1)
def d_u_law_ties : Fn := fnP 7 b_u_law_ties
theorem sc_u_law_ties : FnScope ["pen", "n", "way", "found", "p", "q", "is_tied"] ["pen", "n"] (defScope s_u_law_ties) := ⟨rfl, rfl, rfl, by decide +kernel, rfl, by decide +kernel, by decide +kernel⟩
theorem fn_u_law_ties (F : Fun K "_law_ties" "_law_ties" s_u_law_ties f fd) (z_range : mg "range" = none) (z_tuple : mg "tuple" = none)     (D_u_law_draw : Def P w K mg base 1 "_law_draw" ["pen", "many"] (spP K cl 2 d_u_law_draw)) :
    FnG P w K mg base 2 f fd ["pen", "n"] (spP K cl 2 d_u_law_ties) := by
  refine fn_P (N := ["pen", "n", "way", "found", "p", "q", "is_tied"]) F sc_u_law_ties ?_
  rintro ⟨prog, w2, K2, mg2, base2, A, N, s0, H0, ⟨sc, lo, gl, ce, qu, fu, co, fr, bl⟩, outer, stack, ex, fn, calm, pn, xe⟩ e1 e2 e3 e4 e5 e6 e7 e8 e9 e10 E c tk hp
  dsimp only at e1 e2 e3 e4 e5 e6 e7 e8 e9 e10
  subst e1 e2 e3 e4 e5 e6 e7 e8 e9 e10
  exact ss_cons (s_par (j := 2) (l := 3) c.calm c.nd (a_cons (q_call D_u_law_draw (by decide) c tk (a_cons (s_v 0) (a_cons (s_int) (a_nil))) (al_cons (al_cons (al_nil)))) (a_cons (s_mut (l_lst (a_nil))) a_nil)))
    (ss_cons (s_for hp c.calm (i_r1 rfl z_range (a_cons (s_v 1) (a_nil))) (g_n 4 c.nd) (ss_one (s_for hp c.calm (i_r2 rfl z_range (a_cons (s_op y_add (s_v 4) (s_int)) (a_cons (s_v 1) (a_nil)))) (g_n 5 c.nd) (ss_cons (s_set (j := 6) c.nd (s_cmp (y_eq c) (q_call D_u_law_draw (by decide) c tk (a_cons (s_v 0) (a_cons (s_int) (a_nil))) (al_cons (al_cons (al_nil)))) (s_int) rfl))
    (ss_cons (s_ifS (t_cmp (y_eq c) (s_v 2) (s_int) rfl) (ss_one (s_set (j := 6) c.nd (s_or (s_cmp (y_eq c) (s_v 5) (s_op y_add (s_v 4) (s_int)) rfl) (s_one (s_cmp (y_eq c) (q_call D_u_law_draw (by decide) c tk (a_cons (s_v 0) (a_cons (s_int) (a_nil))) (al_cons (al_cons (al_nil)))) (s_int) rfl))))) (ss_nil))
    (ss_cons (s_ifS (t_cmp (y_eq c) (s_v 2) (s_int) rfl) (ss_one (s_set (j := 6) c.nd (s_cmp y_gt (q_call D_u_law_draw (by decide) c tk (a_cons (s_v 0) (a_cons (s_int) (a_nil))) (al_cons (al_cons (al_nil)))) (s_int) rfl))) (ss_nil))
    (ss_one (s_ifS (t_tr (s_v 6)) (ss_one (s_app (s_v 3) (s_tup (a_cons (s_v 4) (a_cons (s_v 5) (a_nil)))) (fun h1 h2 => pe_bm PySem.F.plainAttrs_list PySem.F.slot_list_append PySem.F.type_list_append mt_append h1 h2))) (ss_nil)))))))))
    (ss_one (s_ret (s_bT c_tuple rfl z_tuple rfl (a_cons (s_v 3) (a_nil))))))
abbrev s_u_law_pick : Stmt := top 44
def b_u_law_pick : Sv := sRet (e2 oIx (eV 1) (eCall d_u_law_draw (aC (eV 0) (aC (eB bLen (aC (eV 1) (aN))) (aN)))))
def d_u_law_pick : Fn := fnP 2 b_u_law_pick
theorem sc_u_law_pick : FnScope ["pen", "some"] ["pen", "some"] (defScope s_u_law_pick) := ⟨rfl, rfl, rfl, by decide +kernel, rfl, by decide +kernel, by decide +kernel⟩
theorem fn_u_law_pick (F : Fun K "_law_pick" "_law_pick" s_u_law_pick f fd) (z_len : mg "len" = none)     (D_u_law_draw : Def P w K mg base 1 "_law_draw" ["pen", "many"] (spP K cl 2 d_u_law_draw)) :
    FnG P w K mg base 2 f fd ["pen", "some"] (spP K cl 2 d_u_law_pick) := by
  refine fn_P (N := ["pen", "some"]) F sc_u_law_pick ?_
  rintro ⟨prog, w2, K2, mg2, base2, A, N, s0, H0, ⟨sc, lo, gl, ce, qu, fu, co, fr, bl⟩, outer, stack, ex, fn, calm, pn, xe⟩ e1 e2 e3 e4 e5 e6 e7 e8 e9 e10 E c tk hp
  dsimp only at e1 e2 e3 e4 e5 e6 e7 e8 e9 e10
  subst e1 e2 e3 e4 e5 e6 e7 e8 e9 e10
  exact ss_one (s_ret (s_ix c (s_v 1) (q_call D_u_law_draw (by decide) c tk (a_cons (s_v 0) (a_cons (s_b c_len rfl z_len rfl (a_cons (s_v 1) (a_nil))) (a_nil))) (al_cons (al_cons (al_nil)))) (fun _ _ => rfl)))
abbrev s_u_law_mixed : Stmt := top 45
def b_u_law_mixed_l1 : Sv := sApp (eV 3) (ePop (eV 2) (eCall d_u_law_draw (aC (eV 0) (aC (eB bLen (aC (eV 2) (aN))) (aN)))))
def b_u_law_mixed_2 : Sv := sRet (eV 3)
def b_u_law_mixed_1 : Sv := sSeq (sFor (iR1 (aC (eB bLen (aC (eV 1) (aN))) (aN))) (gN 4) (b_u_law_mixed_l1))
    (b_u_law_mixed_2)
def b_u_law_mixed : Sv := sSeq (sPar 2 3 (aC (eMut (lB mList (aC (eV 1) (aN)))) (aC (eMut (lLst (aN))) aN)))
    (b_u_law_mixed_1)
def d_u_law_mixed : FnL := fnL 5 b_u_law_mixed
theorem sc_u_law_mixed : FnScope ["pen", "some", "rest", "found", "lap"] ["pen", "some"] (defScope s_u_law_mixed) := ⟨rfl, rfl, rfl, by decide +kernel, rfl, by decide +kernel, by decide +kernel⟩
theorem fn_u_law_mixed (F : Fun K "_law_mixed" "_law_mixed" s_u_law_mixed f fd) (z_list : mg "list" = none) (z_len : mg "len" = none) (z_range : mg "range" = none)     (D_u_law_draw : Def P w K mg base 1 "_law_draw" ["pen", "many"] (spP K cl 2 d_u_law_draw)) :
    FnG P w K mg base 2 f fd ["pen", "some"] (spL K cl 2 d_u_law_mixed) := by
  refine fn_L (N := ["pen", "some", "rest", "found", "lap"]) F sc_u_law_mixed ?_
  rintro ⟨prog, w2, K2, mg2, base2, A, N, s0, H0, ⟨sc, lo, gl, ce, qu, fu, co, fr, bl⟩, outer, stack, ex, fn, calm, pn, xe⟩ e1 e2 e3 e4 e5 e6 e7 e8 e9 e10 E c tk hp
  dsimp only at e1 e2 e3 e4 e5 e6 e7 e8 e9 e10
  subst e1 e2 e3 e4 e5 e6 e7 e8 e9 e10
  exact ss_cons (s_par (j := 2) (l := 3) c.calm c.nd (a_cons (s_mut (l_bT c_list rfl z_list rfl (a_cons (s_v 1) (a_nil)))) (a_cons (s_mut (l_lst (a_nil))) a_nil)))
    (ss_cons (s_for hp c.calm (i_r1 rfl z_range (a_cons (s_b c_len rfl z_len rfl (a_cons (s_v 1) (a_nil))) (a_nil))) (g_n 4 c.nd) (ss_one (s_app (s_v 3) (s_pop (s_v 2) (q_call D_u_law_draw (by decide) c tk (a_cons (s_v 0) (a_cons (s_b c_len rfl z_len rfl (a_cons (s_v 2) (a_nil))) (a_nil))) (al_cons (al_cons (al_nil)))) (fun h1 h2 => pe_bm PySem.F.plainAttrs_list PySem.F.slot_list_pop PySem.F.type_list_pop mt_popAt h1 h2)) (fun h1 h2 => pe_bm PySem.F.plainAttrs_list PySem.F.slot_list_append PySem.F.type_list_append mt_append h1 h2))))
    (ss_one (s_ret (s_v 3))))
abbrev s_numbers_of : Stmt := top 35
def b_numbers_of_4 : Sv := sRet (eTup (aC (e1 (oFld "Web" "places") (eV 0)) (aC (eB bLen (aC (e2 oIx (e1 (oFld "Web" "near") (eV 0)) (eC (.int 0))) (aN))) (aC (e2 oIx (eV 2) (eC (.int 0))) (aC (e2 oIx (eV 2) (eC (.int 1))) (aN))))))
def b_numbers_of_3 : Sv := sSeq (sAsg (gN 2) (eFrz (lComp (iA (eTup (aC (e2 oIx (eCall d_pairs_in (aC (eV 0) (aC (eC (.bl true)) (aN)))) (eC (.int 0))) (aC (e2 oIx (eCall d_pairs_in (aC (eV 0) (aC (eC (.bl false)) (aN)))) (eC (.int 0))) (aN))))) (gT [gN 3, gN 4]) (tYes) (eB bLen (aC (eCall d_common_in (aC (eV 0) (aC (eV 3) (aC (eV 4) (aN))))) (aN))) [3, 4])))
    (b_numbers_of_4)
def b_numbers_of_2 : Sv := sSeq (sIf (tB (e2 oIsNot (eV 1) (eC .non))) (sRaise "NotKept" ["promise", "witness"] (aC (eC (.str "even")) (aC (eV 1) (aN)))) (sPass))
    (b_numbers_of_3)
def b_numbers_of_1 : Sv := sSeq (sAsg (gN 1) (eCall d_uneven_in (aC (eV 0) (aN))))
    (b_numbers_of_2)
def b_numbers_of : Sv := sSeq (sExpr (eCall d_need_web (aC (eV 0) (aN))))
    (b_numbers_of_1)
def d_numbers_of : Fn := fnP 5 b_numbers_of
theorem sc_numbers_of : FnScope ["web", "bar", "counts", "p", "q"] ["web"] (defScope s_numbers_of) := ⟨rfl, rfl, rfl, by decide +kernel, rfl, by decide +kernel, by decide +kernel⟩
theorem fn_numbers_of (F : Fun K "numbers_of" "numbers_of" s_numbers_of f fd) (z_len : mg "len" = none) (O_Web : Ocl K mg "Web" ["places", "ties", "near"]) (E_NotKept : Exc P w K mg base "NotKept" ["promise", "witness"])   (D_need_web : Def P w K mg base 3 "need_web" ["web"] (spP K cl 1 d_need_web)) (D_uneven_in : Def P w K mg base 3 "uneven_in" ["web"] (spP K cl 1 d_uneven_in)) (D_pairs_in : Def P w K mg base 2 "pairs_in" ["web", "is_tied"] (spP K cl 2 d_pairs_in)) (D_common_in : Def P w K mg base 1 "common_in" ["web", "p", "q"] (spP K cl 3 d_common_in)) :
    FnG P w K mg base 4 f fd ["web"] (spP K cl 1 d_numbers_of) := by
  refine fn_P (N := ["web", "bar", "counts", "p", "q"]) F sc_numbers_of ?_
  rintro ⟨prog, w2, K2, mg2, base2, A, N, s0, H0, ⟨sc, lo, gl, ce, qu, fu, co, fr, bl⟩, outer, stack, ex, fn, calm, pn, xe⟩ e1 e2 e3 e4 e5 e6 e7 e8 e9 e10 E c tk hp
  dsimp only at e1 e2 e3 e4 e5 e6 e7 e8 e9 e10
  subst e1 e2 e3 e4 e5 e6 e7 e8 e9 e10
  exact ss_cons (s_expr (q_call D_need_web (by decide) c tk (a_cons (s_v 0) (a_nil)) (al_cons (al_nil))))
    (ss_cons (s_set (j := 1) c.nd (q_call D_uneven_in (by decide) c tk (a_cons (s_v 0) (a_nil)) (al_cons (al_nil))))
    (ss_cons (s_ifS (t_cmp y_isNot (s_v 1) (s_non) rfl) (ss_one (s_raise E_NotKept c (by decide) tk (a_cons (s_str) (a_cons (s_v 1) (a_nil))))) (ss_nil))
    (ss_cons (s_setComp (i := 2) c rfl rfl rfl (i_any (s_tup (a_cons (s_ix c (q_call D_pairs_in (by decide) c tk (a_cons (s_v 0) (a_cons (s_bl) (a_nil))) (al_cons (al_cons (al_nil)))) (s_int) (fun _ _ => rfl)) (a_cons (s_ix c (q_call D_pairs_in (by decide) c tk (a_cons (s_v 0) (a_cons (s_bl) (a_nil))) (al_cons (al_cons (al_nil)))) (s_int) (fun _ _ => rfl)) (a_nil))))) (own := [("p", 3), ("q", 4)]) (blkOk_by rfl) (by decide) (fun s H C cc fp => g_tup (c.blk).calm (gs_cons (g_n 3 (c.blk).nd) (gs_cons (g_n 4 (c.blk).nd) (gs_nil)))) (fun s H C cc fp => ts_nil) (fun s H C cc fp => s_b c_len rfl z_len rfl (a_cons (q_call D_common_in (by decide) (c.blk) takes0 (a_cons (s_v 0) (a_cons (s_v 3) (a_cons (s_v 4) (a_nil)))) (al_cons (al_cons (al_cons (al_nil))))) (a_nil))))
    (ss_one (s_ret (s_tup (a_cons (s_fl O_Web "places" (by decide) (s_v 0)) (a_cons (s_b c_len rfl z_len rfl (a_cons (s_ix c (s_fl O_Web "near" (by decide) (s_v 0)) (s_int) (fun _ _ => rfl)) (a_nil))) (a_cons (s_ix c (s_v 2) (s_int) (fun _ _ => rfl)) (a_cons (s_ix c (s_v 2) (s_int) (fun _ _ => rfl)) (a_nil)))))))))))
abbrev s_all_pairs : Stmt := top 20
def b_all_pairs : Sv := sRet (eFrz (lComp2 (iR1 (aC (eV 0) (aN))) (gN 1) (tYes) (iR2 (aC (e2 oAdd (eV 1) (eC (.int 1))) (aC (eV 0) (aN)))) (gN 2) (tYes) (eTup (aC (eV 1) (aC (eV 2) (aN)))) [1, 2] [2]))
def d_all_pairs : Fn := fnP 3 b_all_pairs
theorem sc_all_pairs : FnScope ["places", "p", "q"] ["places"] (defScope s_all_pairs) := ⟨rfl, rfl, rfl, by decide +kernel, rfl, by decide +kernel, by decide +kernel⟩
theorem fn_all_pairs (F : Fun K "all_pairs" "all_pairs" s_all_pairs f fd) (z_range : mg "range" = none)      :
    FnG P w K mg base 1 f fd ["places"] (spP K cl 1 d_all_pairs) := by
  refine fn_P (N := ["places", "p", "q"]) F sc_all_pairs ?_
  rintro ⟨prog, w2, K2, mg2, base2, A, N, s0, H0, ⟨sc, lo, gl, ce, qu, fu, co, fr, bl⟩, outer, stack, ex, fn, calm, pn, xe⟩ e1 e2 e3 e4 e5 e6 e7 e8 e9 e10 E c tk hp
  dsimp only at e1 e2 e3 e4 e5 e6 e7 e8 e9 e10
  subst e1 e2 e3 e4 e5 e6 e7 e8 e9 e10
  exact ss_one (s_ret (s_frz (l_comp2 c (i_r1 rfl z_range (a_cons (s_v 0) (a_nil))) (own := [("p", 1), ("q", 2)]) (vs1 := [2]) (blkOk_by rfl) (by decide) (by decide) (by decide) (fun s H C cc fp => g_n 1 (c.blk).nd) (fun s H C cc fp => ts_nil) (fun s H C cc fp => i_r2 rfl z_range (a_cons (s_op y_add (s_v 1) (s_int)) (a_cons (s_v 0) (a_nil)))) (fun s H C cc fp => g_n 2 (c.blk).nd) (fun s H C cc fp => ts_nil) (fun s H C cc fp => s_tup (a_cons (s_v 1) (a_cons (s_v 2) (a_nil)))))))
abbrev s_complement_in : Stmt := top 21
def b_complement_in_1 : Sv := sRet (eCall d_Web (aC (e1 (oFld "Web" "places") (eV 0)) (aC (eB bTuple (aC (eFrz (lComp (iA (eCall d_all_pairs (aC (e1 (oFld "Web" "places") (eV 0)) (aN)))) (gN 3) (tB (e2 oNotIn (eV 3) (eV 1))) (eV 3) [3])) (aN))) (aN))))
def b_complement_in : Sv := sSeq (sAsg (gN 1) (eDcT (iA (e1 (oFld "Web" "ties") (eV 0))) (gN 2) (tYes) (eV 2) (eC (.bl true)) [2]))
    (b_complement_in_1)
def d_complement_in : Fn := fnP 4 b_complement_in
theorem sc_complement_in : FnScope ["web", "known", "tie", "pair"] ["web"] (defScope s_complement_in) := ⟨rfl, rfl, rfl, by decide +kernel, rfl, by decide +kernel, by decide +kernel⟩
theorem fn_complement_in (F : Fun K "complement_in" "complement_in" s_complement_in f fd) (z_tuple : mg "tuple" = none) (O_Web : Ocl K mg "Web" ["places", "ties", "near"])    (D_Web : MkD P w K cl mg base 6 "Web" ["self", "places", "ties"] 2 d_Web) (D_all_pairs : Def P w K mg base 1 "all_pairs" ["places"] (spP K cl 1 d_all_pairs)) :
    FnG P w K mg base 8 f fd ["web"] (spP K cl 1 d_complement_in) := by
  refine fn_P (N := ["web", "known", "tie", "pair"]) F sc_complement_in ?_
  rintro ⟨prog, w2, K2, mg2, base2, A, N, s0, H0, ⟨sc, lo, gl, ce, qu, fu, co, fr, bl⟩, outer, stack, ex, fn, calm, pn, xe⟩ e1 e2 e3 e4 e5 e6 e7 e8 e9 e10 E c tk hp
  dsimp only at e1 e2 e3 e4 e5 e6 e7 e8 e9 e10
  subst e1 e2 e3 e4 e5 e6 e7 e8 e9 e10
  exact ss_cons (s_set (j := 1) c.nd (s_dcT c (i_any (s_fl O_Web "ties" (by decide) (s_v 0))) (own := [("tie", 2)]) (blkOk_by rfl) (by decide) (fun s H C cc fp => g_n 2 (c.blk).nd) (fun s H C cc fp => ts_nil) (fun s H C cc fp => s_v 2) (fun s H C cc fp => s_bl)))
    (ss_one (s_ret (q_mk D_Web (by decide) c tk (a_cons (s_fl O_Web "places" (by decide) (s_v 0)) (a_cons (s_bT c_tuple rfl z_tuple rfl (a_cons (s_frz (l_comp c (i_any (q_call D_all_pairs (by decide) c tk (a_cons (s_fl O_Web "places" (by decide) (s_v 0)) (a_nil)) (al_cons (al_nil)))) (own := [("pair", 3)]) (blkOk_by rfl) (by decide) (fun s H C cc fp => g_n 3 (c.blk).nd) (fun s H C cc fp => ts_one (t_cmp (y_notIn (c.blk)) (s_v 3) (s_v 1) rfl)) (fun s H C cc fp => s_v 3))) (a_nil))) (a_nil))) (al_cons (al_cons (al_nil))))))
abbrev s_complement : Stmt := top 22
def b_complement_1 : Sv := sRet (eCall d_complement_in (aC (eV 0) (aN)))
def b_complement : Sv := sSeq (sExpr (eCall d_need_web (aC (eV 0) (aN))))
    (b_complement_1)
def d_complement : Fn := fnP 1 b_complement
theorem sc_complement : FnScope ["web"] ["web"] (defScope s_complement) := ⟨rfl, rfl, rfl, by decide +kernel, rfl, by decide +kernel, by decide +kernel⟩
theorem fn_complement (F : Fun K "complement" "complement" s_complement f fd)      (D_need_web : Def P w K mg base 3 "need_web" ["web"] (spP K cl 1 d_need_web)) (D_complement_in : Def P w K mg base 8 "complement_in" ["web"] (spP K cl 1 d_complement_in)) :
    FnG P w K mg base 9 f fd ["web"] (spP K cl 1 d_complement) := by
  refine fn_P (N := ["web"]) F sc_complement ?_
  rintro ⟨prog, w2, K2, mg2, base2, A, N, s0, H0, ⟨sc, lo, gl, ce, qu, fu, co, fr, bl⟩, outer, stack, ex, fn, calm, pn, xe⟩ e1 e2 e3 e4 e5 e6 e7 e8 e9 e10 E c tk hp
  dsimp only at e1 e2 e3 e4 e5 e6 e7 e8 e9 e10
  subst e1 e2 e3 e4 e5 e6 e7 e8 e9 e10
  exact ss_cons (s_expr (q_call D_need_web (by decide) c tk (a_cons (s_v 0) (a_nil)) (al_cons (al_nil))))
    (ss_one (s_ret (q_call D_complement_in (by decide) c tk (a_cons (s_v 0) (a_nil)) (al_cons (al_nil)))))
abbrev s_need_number : Stmt := top 23
def b_need_number : Sv := sIf (tNot (tT (eCall d_is_count (aC (eV 1) (aN))))) (sRaise "BadNumber" ["what", "number"] (aC (eV 0) (aC (eV 1) (aN)))) (sPass)
def d_need_number : Fn := fnP 2 b_need_number
theorem sc_need_number : FnScope ["what", "number"] ["what", "number"] (defScope s_need_number) := ⟨rfl, rfl, rfl, by decide +kernel, rfl, by decide +kernel, by decide +kernel⟩
theorem fn_need_number (F : Fun K "need_number" "need_number" s_need_number f fd)   (E_BadNumber : Exc P w K mg base "BadNumber" ["what", "number"])   (D_is_count : Def P w K mg base 2 "is_count" ["value"] (spP K cl 1 d_is_count)) :
    FnG P w K mg base 3 f fd ["what", "number"] (spP K cl 2 d_need_number) := by
  refine fn_P (N := ["what", "number"]) F sc_need_number ?_
  rintro ⟨prog, w2, K2, mg2, base2, A, N, s0, H0, ⟨sc, lo, gl, ce, qu, fu, co, fr, bl⟩, outer, stack, ex, fn, calm, pn, xe⟩ e1 e2 e3 e4 e5 e6 e7 e8 e9 e10 E c tk hp
  dsimp only at e1 e2 e3 e4 e5 e6 e7 e8 e9 e10
  subst e1 e2 e3 e4 e5 e6 e7 e8 e9 e10
  exact ss_one (s_ifS (t_not (t_tr (q_call D_is_count (by decide) c tk (a_cons (s_v 1) (a_nil)) (al_cons (al_nil))))) (ss_one (s_raise E_BadNumber c (by decide) tk (a_cons (s_v 0) (a_cons (s_v 1) (a_nil))))) (ss_nil))
abbrev s_web_by : Stmt := top 17
def b_web_by_1 : Sv := sRet (eCall d_Web (aC (eV 0) (aC (eB bTuple (aC (eFrz (lB mSortA (aC (eV 2) (aN)))) (aN))) (aN))))
def b_web_by : Sv := sSeq (sAsg (gN 2) (eDcT (iA (eV 1)) (gT [gN 3, gN 4]) (tYes) (eTup (aC (eB bMin2 (aC (eV 3) (aC (eV 4) (aN)))) (aC (eB bMax2 (aC (eV 3) (aC (eV 4) (aN)))) (aN)))) (eC (.bl true)) [3, 4]))
    (b_web_by_1)
def d_web_by : Fn := fnP 5 b_web_by
theorem sc_web_by : FnScope ["places", "pairs", "ties", "p", "q"] ["places", "pairs"] (defScope s_web_by) := ⟨rfl, rfl, rfl, by decide +kernel, rfl, by decide +kernel, by decide +kernel⟩
theorem fn_web_by (F : Fun K "web_by" "web_by" s_web_by f fd) (z_max : mg "max" = none) (z_min : mg "min" = none) (z_sorted : mg "sorted" = none) (z_tuple : mg "tuple" = none)     (D_Web : MkD P w K cl mg base 6 "Web" ["self", "places", "ties"] 2 d_Web) :
    FnG P w K mg base 8 f fd ["places", "pairs"] (spP K cl 2 d_web_by) := by
  refine fn_P (N := ["places", "pairs", "ties", "p", "q"]) F sc_web_by ?_
  rintro ⟨prog, w2, K2, mg2, base2, A, N, s0, H0, ⟨sc, lo, gl, ce, qu, fu, co, fr, bl⟩, outer, stack, ex, fn, calm, pn, xe⟩ e1 e2 e3 e4 e5 e6 e7 e8 e9 e10 E c tk hp
  dsimp only at e1 e2 e3 e4 e5 e6 e7 e8 e9 e10
  subst e1 e2 e3 e4 e5 e6 e7 e8 e9 e10
  exact ss_cons (s_setDcT (i := 2) c rfl rfl rfl (i_any (s_v 1)) (own := [("p", 3), ("q", 4)]) (blkOk_by rfl) (by decide) (fun s H C cc fp => g_tup (c.blk).calm (gs_cons (g_n 3 (c.blk).nd) (gs_cons (g_n 4 (c.blk).nd) (gs_nil)))) (fun s H C cc fp => ts_nil) (fun s H C cc fp => s_tup (a_cons (s_b (c_min2 (c.blk).calm) rfl z_min rfl (a_cons (s_v 3) (a_cons (s_v 4) (a_nil)))) (a_cons (s_b (c_max2 (c.blk).calm) rfl z_max rfl (a_cons (s_v 3) (a_cons (s_v 4) (a_nil)))) (a_nil)))) (fun s H C cc fp => s_bl))
    (ss_one (s_ret (q_mk D_Web (by decide) c tk (a_cons (s_v 0) (a_cons (s_bT c_tuple rfl z_tuple rfl (a_cons (s_frz (l_b (c_sortA c) rfl z_sorted rfl (a_cons (s_v 2) (a_nil)))) (a_nil))) (a_nil))) (al_cons (al_cons (al_nil))))))
abbrev s_ring_web : Stmt := top 24
def b_ring_web_2 : Sv := sRet (eCall d_web_by (aC (eV 0) (aC (eFrz (lComp (iR1 (aC (eV 0) (aN))) (gN 1) (tYes) (eTup (aC (eV 1) (aC (e2 oMod (e2 oAdd (eV 1) (eC (.int 1))) (eV 0)) (aN)))) [1])) (aN))))
def b_ring_web_1 : Sv := sSeq (sIf (tB (e2 oLt (eV 0) (eC (.int 3)))) (sRaise "BadNumber" ["what", "number"] (aC (eC (.str "n")) (aC (eV 0) (aN)))) (sPass))
    (b_ring_web_2)
def b_ring_web : Sv := sSeq (sExpr (eCall d_need_number (aC (eC (.str "n")) (aC (eV 0) (aN)))))
    (b_ring_web_1)
def d_ring_web : Fn := fnP 2 b_ring_web
theorem sc_ring_web : FnScope ["n", "k"] ["n"] (defScope s_ring_web) := ⟨rfl, rfl, rfl, by decide +kernel, rfl, by decide +kernel, by decide +kernel⟩
theorem fn_ring_web (F : Fun K "ring_web" "ring_web" s_ring_web f fd) (z_range : mg "range" = none)  (E_BadNumber : Exc P w K mg base "BadNumber" ["what", "number"])   (D_need_number : Def P w K mg base 3 "need_number" ["what", "number"] (spP K cl 2 d_need_number)) (D_web_by : Def P w K mg base 8 "web_by" ["places", "pairs"] (spP K cl 2 d_web_by)) :
    FnG P w K mg base 9 f fd ["n"] (spP K cl 1 d_ring_web) := by
  refine fn_P (N := ["n", "k"]) F sc_ring_web ?_
  rintro ⟨prog, w2, K2, mg2, base2, A, N, s0, H0, ⟨sc, lo, gl, ce, qu, fu, co, fr, bl⟩, outer, stack, ex, fn, calm, pn, xe⟩ e1 e2 e3 e4 e5 e6 e7 e8 e9 e10 E c tk hp
  dsimp only at e1 e2 e3 e4 e5 e6 e7 e8 e9 e10
  subst e1 e2 e3 e4 e5 e6 e7 e8 e9 e10
  exact ss_cons (s_expr (q_call D_need_number (by decide) c tk (a_cons (s_str) (a_cons (s_v 0) (a_nil))) (al_cons (al_cons (al_nil)))))
    (ss_cons (s_ifS (t_cmp (y_lt c) (s_v 0) (s_int) rfl) (ss_one (s_raise E_BadNumber c (by decide) tk (a_cons (s_str) (a_cons (s_v 0) (a_nil))))) (ss_nil))
    (ss_one (s_ret (q_call D_web_by (by decide) c tk (a_cons (s_v 0) (a_cons (s_frz (l_comp c (i_r1 rfl z_range (a_cons (s_v 0) (a_nil))) (own := [("k", 1)]) (blkOk_by rfl) (by decide) (fun s H C cc fp => g_n 1 (c.blk).nd) (fun s H C cc fp => ts_nil) (fun s H C cc fp => s_tup (a_cons (s_v 1) (a_cons (s_op y_mod (s_op y_add (s_v 1) (s_int)) (s_v 0)) (a_nil)))))) (a_nil))) (al_cons (al_cons (al_nil)))))))
abbrev s_pairs_web : Stmt := top 25
def b_pairs_web_1 : Sv := sRet (eCall d_Web (aC (e2 oMul (eC (.int 2)) (eV 0)) (aC (eB bTuple (aC (eFrz (lComp (iA (eCall d_all_pairs (aC (e2 oMul (eC (.int 2)) (eV 0)) (aN)))) (gT [gN 1, gN 2]) (tB (e2 oNe (e2 oDiv (eV 1) (eC (.int 2))) (e2 oDiv (eV 2) (eC (.int 2))))) (eTup (aC (eV 1) (aC (eV 2) (aN)))) [1, 2])) (aN))) (aN))))
def b_pairs_web : Sv := sSeq (sExpr (eCall d_need_number (aC (eC (.str "n")) (aC (eV 0) (aN)))))
    (b_pairs_web_1)
def d_pairs_web : Fn := fnP 3 b_pairs_web
theorem sc_pairs_web : FnScope ["n", "p", "q"] ["n"] (defScope s_pairs_web) := ⟨rfl, rfl, rfl, by decide +kernel, rfl, by decide +kernel, by decide +kernel⟩
theorem fn_pairs_web (F : Fun K "pairs_web" "pairs_web" s_pairs_web f fd) (z_tuple : mg "tuple" = none)     (D_need_number : Def P w K mg base 3 "need_number" ["what", "number"] (spP K cl 2 d_need_number)) (D_Web : MkD P w K cl mg base 6 "Web" ["self", "places", "ties"] 2 d_Web) (D_all_pairs : Def P w K mg base 1 "all_pairs" ["places"] (spP K cl 1 d_all_pairs)) :
    FnG P w K mg base 8 f fd ["n"] (spP K cl 1 d_pairs_web) := by
  refine fn_P (N := ["n", "p", "q"]) F sc_pairs_web ?_
  rintro ⟨prog, w2, K2, mg2, base2, A, N, s0, H0, ⟨sc, lo, gl, ce, qu, fu, co, fr, bl⟩, outer, stack, ex, fn, calm, pn, xe⟩ e1 e2 e3 e4 e5 e6 e7 e8 e9 e10 E c tk hp
  dsimp only at e1 e2 e3 e4 e5 e6 e7 e8 e9 e10
  subst e1 e2 e3 e4 e5 e6 e7 e8 e9 e10
  exact ss_cons (s_expr (q_call D_need_number (by decide) c tk (a_cons (s_str) (a_cons (s_v 0) (a_nil))) (al_cons (al_cons (al_nil)))))
    (ss_one (s_ret (q_mk D_Web (by decide) c tk (a_cons (s_op y_mul (s_int) (s_v 0)) (a_cons (s_bT c_tuple rfl z_tuple rfl (a_cons (s_frz (l_comp c (i_any (q_call D_all_pairs (by decide) c tk (a_cons (s_op y_mul (s_int) (s_v 0)) (a_nil)) (al_cons (al_nil)))) (own := [("p", 1), ("q", 2)]) (blkOk_by rfl) (by decide) (fun s H C cc fp => g_tup (c.blk).calm (gs_cons (g_n 1 (c.blk).nd) (gs_cons (g_n 2 (c.blk).nd) (gs_nil)))) (fun s H C cc fp => ts_one (t_cmp (y_ne (c.blk)) (s_op y_div (s_v 1) (s_int)) (s_op y_div (s_v 2) (s_int)) rfl)) (fun s H C cc fp => s_tup (a_cons (s_v 1) (a_cons (s_v 2) (a_nil)))))) (a_nil))) (a_nil))) (al_cons (al_cons (al_nil))))))
abbrev s_u_law_point_web : Stmt := top 48
def b_u_law_point_web_l1 : Sv := sAsg (gN 2) (e2 oAdd (eV 2) (eFrz (lComp (iR2 (aC (eIf (tT (eV 1)) (eC (.int 0)) (e2 oAdd (eV 3) (eC (.int 1)))) (aC (eV 0) (aN)))) (gN 9) (tYes) (eTup (aC (eV 3) (aC (eV 9) (aN)))) [9])))
def b_u_law_point_web_l3_2 : Sv := sIf (tAnd (tNot (tT (eV 1))) (tB (e2 oNe (eFrz (lComp (iA (eV 7)) (gN 3) (tB (e2 oIn (eV 3) (eV 8))) (eV 3) [3])) (eFrz (lLst (aN)))))) (sApp (eV 4) (eTup (aC (eV 5) (aC (eV 6) (aN))))) (sPass)
def b_u_law_point_web_l3_1 : Sv := sSeq (sIf (tAnd (tT (eV 1)) (tOr (tB (e2 oEq (e2 oIx (eV 7) (eC (.int 0))) (e2 oIx (eV 8) (eC (.int 0))))) (tB (e2 oEq (e2 oIx (eV 7) (eC (.int 1))) (e2 oIx (eV 8) (eC (.int 1))))))) (sApp (eV 4) (eTup (aC (eV 5) (aC (eV 6) (aN))))) (sPass))
    (b_u_law_point_web_l3_2)
def b_u_law_point_web_l3 : Sv := sSeq (sAsg (gT [gN 7, gN 8]) (eTup (aC (e2 oIx (eV 2) (eV 5)) (aC (e2 oIx (eV 2) (eV 6)) (aN)))))
    (b_u_law_point_web_l3_1)
def b_u_law_point_web_l2 : Sv := sFor (iR2 (aC (e2 oAdd (eV 5) (eC (.int 1))) (aC (eB bLen (aC (eV 2) (aN))) (aN)))) (gN 6) (b_u_law_point_web_l3)
def b_u_law_point_web_4 : Sv := sRet (eCall d_Web (aC (eB bLen (aC (eV 2) (aN))) (aC (eB bTuple (aC (eV 4) (aN))) (aN))))
def b_u_law_point_web_3 : Sv := sSeq (sFor (iR1 (aC (eB bLen (aC (eV 2) (aN))) (aN))) (gN 5) (b_u_law_point_web_l2))
    (b_u_law_point_web_4)
def b_u_law_point_web_2 : Sv := sSeq (sAsg (gN 4) (eMut (lLst (aN))))
    (b_u_law_point_web_3)
def b_u_law_point_web_1 : Sv := sSeq (sFor (iR1 (aC (eV 0) (aN))) (gN 3) (b_u_law_point_web_l1))
    (b_u_law_point_web_2)
def b_u_law_point_web : Sv := sSeq (sAsg (gN 2) (eFrz (lLst (aN))))
    (b_u_law_point_web_1)
def d_u_law_point_web : Fn := fnP 10 b_u_law_point_web
theorem sc_u_law_point_web : FnScope ["a", "is_square", "pairs", "i", "ties", "p", "q", "one", "two", "j"] ["a", "is_square"] (defScope s_u_law_point_web) := ⟨rfl, rfl, rfl, by decide +kernel, rfl, by decide +kernel, by decide +kernel⟩
theorem fn_u_law_point_web (F : Fun K "_law_point_web" "_law_point_web" s_u_law_point_web f fd) (z_range : mg "range" = none) (z_len : mg "len" = none) (z_tuple : mg "tuple" = none)     (D_Web : MkD P w K cl mg base 6 "Web" ["self", "places", "ties"] 2 d_Web) :
    FnG P w K mg base 8 f fd ["a", "is_square"] (spP K cl 2 d_u_law_point_web) := by
  refine fn_P (N := ["a", "is_square", "pairs", "i", "ties", "p", "q", "one", "two", "j"]) F sc_u_law_point_web ?_
  rintro ⟨prog, w2, K2, mg2, base2, A, N, s0, H0, ⟨sc, lo, gl, ce, qu, fu, co, fr, bl⟩, outer, stack, ex, fn, calm, pn, xe⟩ e1 e2 e3 e4 e5 e6 e7 e8 e9 e10 E c tk hp
  dsimp only at e1 e2 e3 e4 e5 e6 e7 e8 e9 e10
  subst e1 e2 e3 e4 e5 e6 e7 e8 e9 e10
  exact ss_cons (s_set (j := 2) c.nd (s_frz (l_lst (a_nil))))
    (ss_cons (s_for hp c.calm (i_r1 rfl z_range (a_cons (s_v 0) (a_nil))) (g_n 3 c.nd) (ss_one (s_set (j := 2) c.nd (s_op y_add (s_v 2) (s_frz (l_comp c (i_r2 rfl z_range (a_cons (s_if (t_tr (s_v 1)) (s_int) (s_op y_add (s_v 3) (s_int))) (a_cons (s_v 0) (a_nil)))) (own := [("j", 9)]) (blkOk_by rfl) (by decide) (fun s H C cc fp => g_n 9 (c.blk).nd) (fun s H C cc fp => ts_nil) (fun s H C cc fp => s_tup (a_cons (s_v 3) (a_cons (s_v 9) (a_nil))))))))))
    (ss_cons (s_set (j := 4) c.nd (s_mut (l_lst (a_nil))))
    (ss_cons (s_for hp c.calm (i_r1 rfl z_range (a_cons (s_b c_len rfl z_len rfl (a_cons (s_v 2) (a_nil))) (a_nil))) (g_n 5 c.nd) (ss_one (s_for hp c.calm (i_r2 rfl z_range (a_cons (s_op y_add (s_v 5) (s_int)) (a_cons (s_b c_len rfl z_len rfl (a_cons (s_v 2) (a_nil))) (a_nil)))) (g_n 6 c.nd) (ss_cons (s_asg (s_tup (a_cons (s_ix c (s_v 2) (s_v 5) (fun _ _ => rfl)) (a_cons (s_ix c (s_v 2) (s_v 6) (fun _ _ => rfl)) (a_nil)))) (g_tup c.calm (gs_cons (g_n 7 c.nd) (gs_cons (g_n 8 c.nd) (gs_nil)))))
    (ss_cons (s_ifS (t_w (w_and (t_tr (s_v 1)) (w_and1 (t_w (w_or (t_cmp (y_eq c) (s_ix c (s_v 7) (s_int) (fun _ _ => rfl)) (s_ix c (s_v 8) (s_int) (fun _ _ => rfl)) rfl) (w_or1 (t_cmp (y_eq c) (s_ix c (s_v 7) (s_int) (fun _ _ => rfl)) (s_ix c (s_v 8) (s_int) (fun _ _ => rfl)) rfl))))))) (ss_one (s_app (s_v 4) (s_tup (a_cons (s_v 5) (a_cons (s_v 6) (a_nil)))) (fun h1 h2 => pe_bm PySem.F.plainAttrs_list PySem.F.slot_list_append PySem.F.type_list_append mt_append h1 h2))) (ss_nil))
    (ss_one (s_ifS (t_w (w_and (t_not (t_tr (s_v 1))) (w_and1 (t_cmp (y_ne c) (s_frz (l_comp c (i_any (s_v 7)) (own := [("i", 3)]) (blkOk_by rfl) (by decide) (fun s H C cc fp => g_n 3 (c.blk).nd) (fun s H C cc fp => ts_one (t_cmp (y_in (c.blk)) (s_v 3) (s_v 8) rfl)) (fun s H C cc fp => s_v 3))) (s_frz (l_lst (a_nil))) rfl)))) (ss_one (s_app (s_v 4) (s_tup (a_cons (s_v 5) (a_cons (s_v 6) (a_nil)))) (fun h1 h2 => pe_bm PySem.F.plainAttrs_list PySem.F.slot_list_append PySem.F.type_list_append mt_append h1 h2))) (ss_nil))))))))
    (ss_one (s_ret (q_mk D_Web (by decide) c tk (a_cons (s_b c_len rfl z_len rfl (a_cons (s_v 2) (a_nil))) (a_cons (s_bT c_tuple rfl z_tuple rfl (a_cons (s_v 4) (a_nil))) (a_nil))) (al_cons (al_cons (al_nil)))))))))
abbrev s_u_law_is : Stmt := top 46
def b_u_law_is : Sv := sRet (eAnd (eIs Ty.bool (eV 0)) (e2 oEq (eV 0) (eV 1)))
def d_u_law_is : Fn := fnP 2 b_u_law_is
theorem sc_u_law_is : FnScope ["told", "due"] ["told", "due"] (defScope s_u_law_is) := ⟨rfl, rfl, rfl, by decide +kernel, rfl, by decide +kernel, by decide +kernel⟩
theorem fn_u_law_is (F : Fun K "_law_is" "_law_is" s_u_law_is f fd) (z_isinstance : mg "isinstance" = none) (z_bool : mg "bool" = none)      :
    FnG P w K mg base 1 f fd ["told", "due"] (spP K cl 2 d_u_law_is) := by
  refine fn_P (N := ["told", "due"]) F sc_u_law_is ?_
  rintro ⟨prog, w2, K2, mg2, base2, A, N, s0, H0, ⟨sc, lo, gl, ce, qu, fu, co, fr, bl⟩, outer, stack, ex, fn, calm, pn, xe⟩ e1 e2 e3 e4 e5 e6 e7 e8 e9 e10 E c tk hp
  dsimp only at e1 e2 e3 e4 e5 e6 e7 e8 e9 e10
  subst e1 e2 e3 e4 e5 e6 e7 e8 e9 e10
  exact ss_one (s_ret (s_and (s_isi Ty.bool (s_v 0) (hm := z_isinstance) (hm2 := z_bool) (hb := rfl) (hn := by decide) (hd := by decide)) (s_one (s_cmp (y_eq c) (s_v 0) (s_v 1) rfl))))
abbrev s_counts_in : Stmt := top 29
def b_counts_in_1 : Sv := sRet (eB bTuple (aC (eFrz (lComp (iA (eV 1)) (gN 2) (tYes) (eB bTuple (aC (eFrz (lComp (iA (eV 1)) (gN 3) (tYes) (eB bLen (aC (eCall d_common_in (aC (eV 0) (aC (eV 2) (aC (eV 3) (aN))))) (aN))) [3])) (aN))) [2])) (aN)))
def b_counts_in : Sv := sSeq (sAsg (gN 1) (eFrz (lRng1 (e1 (oFld "Web" "places") (eV 0)))))
    (b_counts_in_1)
def d_counts_in : Fn := fnP 4 b_counts_in
theorem sc_counts_in : FnScope ["web", "every", "p", "q"] ["web"] (defScope s_counts_in) := ⟨rfl, rfl, rfl, by decide +kernel, rfl, by decide +kernel, by decide +kernel⟩
theorem fn_counts_in (F : Fun K "counts_in" "counts_in" s_counts_in f fd) (z_list : mg "list" = none) (z_range : mg "range" = none) (z_len : mg "len" = none) (z_tuple : mg "tuple" = none) (O_Web : Ocl K mg "Web" ["places", "ties", "near"])    (D_common_in : Def P w K mg base 1 "common_in" ["web", "p", "q"] (spP K cl 3 d_common_in)) :
    FnG P w K mg base 2 f fd ["web"] (spP K cl 1 d_counts_in) := by
  refine fn_P (N := ["web", "every", "p", "q"]) F sc_counts_in ?_
  rintro ⟨prog, w2, K2, mg2, base2, A, N, s0, H0, ⟨sc, lo, gl, ce, qu, fu, co, fr, bl⟩, outer, stack, ex, fn, calm, pn, xe⟩ e1 e2 e3 e4 e5 e6 e7 e8 e9 e10 E c tk hp
  dsimp only at e1 e2 e3 e4 e5 e6 e7 e8 e9 e10
  subst e1 e2 e3 e4 e5 e6 e7 e8 e9 e10
  exact ss_cons (s_set (j := 1) c.nd (s_frz (l_rng1 c.calm rfl z_list rfl z_range (s_fl O_Web "places" (by decide) (s_v 0)))))
    (ss_one (s_ret (s_bT c_tuple rfl z_tuple rfl (a_cons (s_frz (l_comp c (i_any (s_v 1)) (own := [("p", 2)]) (blkOk_by rfl) (by decide) (fun s H C cc fp => g_n 2 (c.blk).nd) (fun s H C cc fp => ts_nil) (fun s H C cc fp => s_bT c_tuple rfl z_tuple rfl (a_cons (s_frz (l_comp (c.blk) (i_any (s_v 1)) (own := [("q", 3)]) (blkOk_by rfl) (by decide) (fun s H C cc fp => g_n 3 ((c.blk).blk).nd) (fun s H C cc fp => ts_nil) (fun s H C cc fp => s_b c_len rfl z_len rfl (a_cons (q_call D_common_in (by decide) ((c.blk).blk) takes0 (a_cons (s_v 0) (a_cons (s_v 2) (a_cons (s_v 3) (a_nil)))) (al_cons (al_cons (al_cons (al_nil))))) (a_nil))))) (a_nil))))) (a_nil)))))
abbrev s_common_counts : Stmt := top 30
def b_common_counts_1 : Sv := sRet (eCall d_counts_in (aC (eV 0) (aN)))
def b_common_counts : Sv := sSeq (sExpr (eCall d_need_web (aC (eV 0) (aN))))
    (b_common_counts_1)
def d_common_counts : Fn := fnP 1 b_common_counts
theorem sc_common_counts : FnScope ["web"] ["web"] (defScope s_common_counts) := ⟨rfl, rfl, rfl, by decide +kernel, rfl, by decide +kernel, by decide +kernel⟩
theorem fn_common_counts (F : Fun K "common_counts" "common_counts" s_common_counts f fd)      (D_need_web : Def P w K mg base 3 "need_web" ["web"] (spP K cl 1 d_need_web)) (D_counts_in : Def P w K mg base 2 "counts_in" ["web"] (spP K cl 1 d_counts_in)) :
    FnG P w K mg base 4 f fd ["web"] (spP K cl 1 d_common_counts) := by
  refine fn_P (N := ["web"]) F sc_common_counts ?_
  rintro ⟨prog, w2, K2, mg2, base2, A, N, s0, H0, ⟨sc, lo, gl, ce, qu, fu, co, fr, bl⟩, outer, stack, ex, fn, calm, pn, xe⟩ e1 e2 e3 e4 e5 e6 e7 e8 e9 e10 E c tk hp
  dsimp only at e1 e2 e3 e4 e5 e6 e7 e8 e9 e10
  subst e1 e2 e3 e4 e5 e6 e7 e8 e9 e10
  exact ss_cons (s_expr (q_call D_need_web (by decide) c tk (a_cons (s_v 0) (a_nil)) (al_cons (al_nil))))
    (ss_one (s_ret (q_call D_counts_in (by decide) c tk (a_cons (s_v 0) (a_nil)) (al_cons (al_nil)))))
abbrev s_need_place : Stmt := top 16
def b_need_place : Sv := sIf (tNot (tT (eCall d_is_place_of (aC (e1 (oFld "Web" "places") (eV 0)) (aC (eV 1) (aN)))))) (sRaise "BadNumber" ["what", "number"] (aC (eC (.str "place")) (aC (eV 1) (aN)))) (sPass)
def d_need_place : Fn := fnP 2 b_need_place
theorem sc_need_place : FnScope ["web", "value"] ["web", "value"] (defScope s_need_place) := ⟨rfl, rfl, rfl, by decide +kernel, rfl, by decide +kernel, by decide +kernel⟩
theorem fn_need_place (F : Fun K "need_place" "need_place" s_need_place f fd)  (O_Web : Ocl K mg "Web" ["places", "ties", "near"]) (E_BadNumber : Exc P w K mg base "BadNumber" ["what", "number"])   (D_is_place_of : Def P w K mg base 3 "is_place_of" ["places", "value"] (spP K cl 2 d_is_place_of)) :
    FnG P w K mg base 4 f fd ["web", "value"] (spP K cl 2 d_need_place) := by
  refine fn_P (N := ["web", "value"]) F sc_need_place ?_
  rintro ⟨prog, w2, K2, mg2, base2, A, N, s0, H0, ⟨sc, lo, gl, ce, qu, fu, co, fr, bl⟩, outer, stack, ex, fn, calm, pn, xe⟩ e1 e2 e3 e4 e5 e6 e7 e8 e9 e10 E c tk hp
  dsimp only at e1 e2 e3 e4 e5 e6 e7 e8 e9 e10
  subst e1 e2 e3 e4 e5 e6 e7 e8 e9 e10
  exact ss_one (s_ifS (t_not (t_tr (q_call D_is_place_of (by decide) c tk (a_cons (s_fl O_Web "places" (by decide) (s_v 0)) (a_cons (s_v 1) (a_nil))) (al_cons (al_cons (al_nil)))))) (ss_one (s_raise E_BadNumber c (by decide) tk (a_cons (s_str) (a_cons (s_v 1) (a_nil))))) (ss_nil))
abbrev s_common_near : Stmt := top 28
def b_common_near_3 : Sv := sRet (eCall d_common_in (aC (eV 0) (aC (eV 1) (aC (eV 2) (aN)))))
def b_common_near_2 : Sv := sSeq (sExpr (eCall d_need_place (aC (eV 0) (aC (eV 2) (aN)))))
    (b_common_near_3)
def b_common_near_1 : Sv := sSeq (sExpr (eCall d_need_place (aC (eV 0) (aC (eV 1) (aN)))))
    (b_common_near_2)
def b_common_near : Sv := sSeq (sExpr (eCall d_need_web (aC (eV 0) (aN))))
    (b_common_near_1)
def d_common_near : Fn := fnP 3 b_common_near
theorem sc_common_near : FnScope ["web", "p", "q"] ["web", "p", "q"] (defScope s_common_near) := ⟨rfl, rfl, rfl, by decide +kernel, rfl, by decide +kernel, by decide +kernel⟩
theorem fn_common_near (F : Fun K "common_near" "common_near" s_common_near f fd)      (D_need_web : Def P w K mg base 3 "need_web" ["web"] (spP K cl 1 d_need_web)) (D_need_place : Def P w K mg base 4 "need_place" ["web", "value"] (spP K cl 2 d_need_place)) (D_common_in : Def P w K mg base 1 "common_in" ["web", "p", "q"] (spP K cl 3 d_common_in)) :
    FnG P w K mg base 5 f fd ["web", "p", "q"] (spP K cl 3 d_common_near) := by
  refine fn_P (N := ["web", "p", "q"]) F sc_common_near ?_
  rintro ⟨prog, w2, K2, mg2, base2, A, N, s0, H0, ⟨sc, lo, gl, ce, qu, fu, co, fr, bl⟩, outer, stack, ex, fn, calm, pn, xe⟩ e1 e2 e3 e4 e5 e6 e7 e8 e9 e10 E c tk hp
  dsimp only at e1 e2 e3 e4 e5 e6 e7 e8 e9 e10
  subst e1 e2 e3 e4 e5 e6 e7 e8 e9 e10
  exact ss_cons (s_expr (q_call D_need_web (by decide) c tk (a_cons (s_v 0) (a_nil)) (al_cons (al_nil))))
    (ss_cons (s_expr (q_call D_need_place (by decide) c tk (a_cons (s_v 0) (a_cons (s_v 1) (a_nil))) (al_cons (al_cons (al_nil)))))
    (ss_cons (s_expr (q_call D_need_place (by decide) c tk (a_cons (s_v 0) (a_cons (s_v 2) (a_nil))) (al_cons (al_cons (al_nil)))))
    (ss_one (s_ret (q_call D_common_in (by decide) c tk (a_cons (s_v 0) (a_cons (s_v 1) (a_cons (s_v 2) (a_nil)))) (al_cons (al_cons (al_cons (al_nil)))))))))
abbrev s_is_even : Stmt := top 34
def b_is_even_1 : Sv := sRet (e2 oIs (eCall d_uneven_in (aC (eV 0) (aN))) (eC .non))
def b_is_even : Sv := sSeq (sExpr (eCall d_need_web (aC (eV 0) (aN))))
    (b_is_even_1)
def d_is_even : Fn := fnP 1 b_is_even
theorem sc_is_even : FnScope ["web"] ["web"] (defScope s_is_even) := ⟨rfl, rfl, rfl, by decide +kernel, rfl, by decide +kernel, by decide +kernel⟩
theorem fn_is_even (F : Fun K "is_even" "is_even" s_is_even f fd)      (D_need_web : Def P w K mg base 3 "need_web" ["web"] (spP K cl 1 d_need_web)) (D_uneven_in : Def P w K mg base 3 "uneven_in" ["web"] (spP K cl 1 d_uneven_in)) :
    FnG P w K mg base 4 f fd ["web"] (spP K cl 1 d_is_even) := by
  refine fn_P (N := ["web"]) F sc_is_even ?_
  rintro ⟨prog, w2, K2, mg2, base2, A, N, s0, H0, ⟨sc, lo, gl, ce, qu, fu, co, fr, bl⟩, outer, stack, ex, fn, calm, pn, xe⟩ e1 e2 e3 e4 e5 e6 e7 e8 e9 e10 E c tk hp
  dsimp only at e1 e2 e3 e4 e5 e6 e7 e8 e9 e10
  subst e1 e2 e3 e4 e5 e6 e7 e8 e9 e10
  exact ss_cons (s_expr (q_call D_need_web (by decide) c tk (a_cons (s_v 0) (a_nil)) (al_cons (al_nil))))
    (ss_one (s_ret (s_cmp y_is (q_call D_uneven_in (by decide) c tk (a_cons (s_v 0) (a_nil)) (al_cons (al_nil))) (s_non) rfl)))
abbrev s_are_numbers : Stmt := top 37
def b_are_numbers_2 : Sv := sRet (eAnd (eCh oLt oLt (eC (.int 0)) (eV 2) (e2 oSub (eV 1) (eC (.int 1)))) (eAnd (e2 oLt (eV 3) (eV 2)) (e2 oLe (eV 4) (eV 2))))
def b_are_numbers_1 : Sv := sSeq (sAsg (gT [gN 1, gN 2, gN 3, gN 4]) (eV 0))
    (b_are_numbers_2)
def b_are_numbers : Sv := sSeq (sIf (tOr (tNot (tT (eIs Ty.tuple (eV 0)))) (tOr (tB (e2 oNe (eB bLen (aC (eV 0) (aN))) (eC (.int 4)))) (tNot (tT (eB bAll (aC (eFrz (lComp (iA (eV 0)) (gN 5) (tYes) (eCall d_is_count (aC (eV 5) (aN))) [5])) (aN))))))) (sRet (eC (.bl false))) (sPass))
    (b_are_numbers_1)
def d_are_numbers : Fn := fnP 6 b_are_numbers
theorem sc_are_numbers : FnScope ["value", "n", "k", "l", "m", "x"] ["value"] (defScope s_are_numbers) := ⟨rfl, rfl, rfl, by decide +kernel, rfl, by decide +kernel, by decide +kernel⟩
theorem fn_are_numbers (F : Fun K "are_numbers" "are_numbers" s_are_numbers f fd) (z_isinstance : mg "isinstance" = none) (z_tuple : mg "tuple" = none) (z_len : mg "len" = none) (z_all : mg "all" = none)     (D_is_count : Def P w K mg base 2 "is_count" ["value"] (spP K cl 1 d_is_count)) :
    FnG P w K mg base 3 f fd ["value"] (spP K cl 1 d_are_numbers) := by
  refine fn_P (N := ["value", "n", "k", "l", "m", "x"]) F sc_are_numbers ?_
  rintro ⟨prog, w2, K2, mg2, base2, A, N, s0, H0, ⟨sc, lo, gl, ce, qu, fu, co, fr, bl⟩, outer, stack, ex, fn, calm, pn, xe⟩ e1 e2 e3 e4 e5 e6 e7 e8 e9 e10 E c tk hp
  dsimp only at e1 e2 e3 e4 e5 e6 e7 e8 e9 e10
  subst e1 e2 e3 e4 e5 e6 e7 e8 e9 e10
  exact ss_cons (s_ifS (t_w (w_or (t_not (t_tr (s_isi Ty.tuple (s_v 0) (hm := z_isinstance) (hm2 := z_tuple) (hb := rfl) (hn := by decide) (hd := by decide)))) (w_or (t_cmp (y_ne c) (s_b c_len rfl z_len rfl (a_cons (s_v 0) (a_nil))) (s_int) rfl) (w_or1 (t_not (t_tr (s_b (c_all c.calm) rfl z_all rfl (a_cons (s_frz (l_comp c (i_any (s_v 0)) (own := [("x", 5)]) (blkOk_by rfl) (by decide) (fun s H C cc fp => g_n 5 (c.blk).nd) (fun s H C cc fp => ts_nil) (fun s H C cc fp => q_call D_is_count (by decide) (c.blk) takes0 (a_cons (s_v 5) (a_nil)) (al_cons (al_nil))))) (a_nil))))))))) (ss_one (s_ret (s_bl))) (ss_nil))
    (ss_cons (s_asg (s_v 0) (g_tup c.calm (gs_cons (g_n 1 c.nd) (gs_cons (g_n 2 c.nd) (gs_cons (g_n 3 c.nd) (gs_cons (g_n 4 c.nd) (gs_nil)))))))
    (ss_one (s_ret (s_and (s_chain (y_lt c) (y_lt c) (s_int) (s_v 2) (s_op y_sub (s_v 1) (s_int)) ) (s_and (s_cmp (y_lt c) (s_v 3) (s_v 2) rfl) (s_one (s_cmp y_le (s_v 4) (s_v 2) rfl)))))))
abbrev s_need_numbers : Stmt := top 38
def b_need_numbers : Sv := sIf (tNot (tT (eCall d_are_numbers (aC (eV 0) (aN))))) (sRaise "BadRow" ["row"] (aC (eV 0) (aN))) (sPass)
def d_need_numbers : Fn := fnP 1 b_need_numbers
theorem sc_need_numbers : FnScope ["numbers"] ["numbers"] (defScope s_need_numbers) := ⟨rfl, rfl, rfl, by decide +kernel, rfl, by decide +kernel, by decide +kernel⟩
theorem fn_need_numbers (F : Fun K "need_numbers" "need_numbers" s_need_numbers f fd)   (E_BadRow : Exc P w K mg base "BadRow" ["row"])   (D_are_numbers : Def P w K mg base 3 "are_numbers" ["value"] (spP K cl 1 d_are_numbers)) :
    FnG P w K mg base 4 f fd ["numbers"] (spP K cl 1 d_need_numbers) := by
  refine fn_P (N := ["numbers"]) F sc_need_numbers ?_
  rintro ⟨prog, w2, K2, mg2, base2, A, N, s0, H0, ⟨sc, lo, gl, ce, qu, fu, co, fr, bl⟩, outer, stack, ex, fn, calm, pn, xe⟩ e1 e2 e3 e4 e5 e6 e7 e8 e9 e10 E c tk hp
  dsimp only at e1 e2 e3 e4 e5 e6 e7 e8 e9 e10
  subst e1 e2 e3 e4 e5 e6 e7 e8 e9 e10
  exact ss_one (s_ifS (t_not (t_tr (q_call D_are_numbers (by decide) c tk (a_cons (s_v 0) (a_nil)) (al_cons (al_nil))))) (ss_one (s_raise E_BadRow c (by decide) tk (a_cons (s_v 0) (a_nil)))) (ss_nil))
abbrev s_turned_in : Stmt := top 39
def b_turned_in_1 : Sv := sRet (eTup (aC (eV 1) (aC (e2 oSub (e2 oSub (eV 1) (eV 2)) (eC (.int 1))) (aC (e2 oSub (e2 oAdd (e2 oSub (eV 1) (e2 oMul (eC (.int 2)) (eV 2))) (eV 4)) (eC (.int 2))) (aC (e2 oAdd (e2 oSub (eV 1) (e2 oMul (eC (.int 2)) (eV 2))) (eV 3)) (aN))))))
def b_turned_in : Sv := sSeq (sAsg (gT [gN 1, gN 2, gN 3, gN 4]) (eV 0))
    (b_turned_in_1)
def d_turned_in : Fn := fnP 5 b_turned_in
theorem sc_turned_in : FnScope ["numbers", "n", "k", "l", "m"] ["numbers"] (defScope s_turned_in) := ⟨rfl, rfl, rfl, by decide +kernel, rfl, by decide +kernel, by decide +kernel⟩
theorem fn_turned_in (F : Fun K "turned_in" "turned_in" s_turned_in f fd)       :
    FnG P w K mg base 1 f fd ["numbers"] (spP K cl 1 d_turned_in) := by
  refine fn_P (N := ["numbers", "n", "k", "l", "m"]) F sc_turned_in ?_
  rintro ⟨prog, w2, K2, mg2, base2, A, N, s0, H0, ⟨sc, lo, gl, ce, qu, fu, co, fr, bl⟩, outer, stack, ex, fn, calm, pn, xe⟩ e1 e2 e3 e4 e5 e6 e7 e8 e9 e10 E c tk hp
  dsimp only at e1 e2 e3 e4 e5 e6 e7 e8 e9 e10
  subst e1 e2 e3 e4 e5 e6 e7 e8 e9 e10
  exact ss_cons (s_asg (s_v 0) (g_tup c.calm (gs_cons (g_n 1 c.nd) (gs_cons (g_n 2 c.nd) (gs_cons (g_n 3 c.nd) (gs_cons (g_n 4 c.nd) (gs_nil)))))))
    (ss_one (s_ret (s_tup (a_cons (s_v 1) (a_cons (s_op y_sub (s_op y_sub (s_v 1) (s_v 2)) (s_int)) (a_cons (s_op y_sub (s_op y_add (s_op y_sub (s_v 1) (s_op y_mul (s_int) (s_v 2))) (s_v 4)) (s_int)) (a_cons (s_op y_add (s_op y_sub (s_v 1) (s_op y_mul (s_int) (s_v 2))) (s_v 3)) (a_nil))))))))
abbrev s_turned_numbers : Stmt := top 40
def b_turned_numbers_3 : Sv := sRet (eV 1)
def b_turned_numbers_2 : Sv := sSeq (sIf (tB (e2 oLt (eB bMin (aC (eV 1) (aN))) (eC (.int 0)))) (sRaise "NotKept" ["promise", "witness"] (aC (eC (.str "numbers")) (aC (eV 1) (aN)))) (sPass))
    (b_turned_numbers_3)
def b_turned_numbers_1 : Sv := sSeq (sAsg (gN 1) (eCall d_turned_in (aC (eV 0) (aN))))
    (b_turned_numbers_2)
def b_turned_numbers : Sv := sSeq (sExpr (eCall d_need_numbers (aC (eV 0) (aN))))
    (b_turned_numbers_1)
def d_turned_numbers : Fn := fnP 2 b_turned_numbers
theorem sc_turned_numbers : FnScope ["numbers", "row"] ["numbers"] (defScope s_turned_numbers) := ⟨rfl, rfl, rfl, by decide +kernel, rfl, by decide +kernel, by decide +kernel⟩
theorem fn_turned_numbers (F : Fun K "turned_numbers" "turned_numbers" s_turned_numbers f fd) (z_min : mg "min" = none)  (E_NotKept : Exc P w K mg base "NotKept" ["promise", "witness"])   (D_need_numbers : Def P w K mg base 4 "need_numbers" ["numbers"] (spP K cl 1 d_need_numbers)) (D_turned_in : Def P w K mg base 1 "turned_in" ["numbers"] (spP K cl 1 d_turned_in)) :
    FnG P w K mg base 5 f fd ["numbers"] (spP K cl 1 d_turned_numbers) := by
  refine fn_P (N := ["numbers", "row"]) F sc_turned_numbers ?_
  rintro ⟨prog, w2, K2, mg2, base2, A, N, s0, H0, ⟨sc, lo, gl, ce, qu, fu, co, fr, bl⟩, outer, stack, ex, fn, calm, pn, xe⟩ e1 e2 e3 e4 e5 e6 e7 e8 e9 e10 E c tk hp
  dsimp only at e1 e2 e3 e4 e5 e6 e7 e8 e9 e10
  subst e1 e2 e3 e4 e5 e6 e7 e8 e9 e10
  exact ss_cons (s_expr (q_call D_need_numbers (by decide) c tk (a_cons (s_v 0) (a_nil)) (al_cons (al_nil))))
    (ss_cons (s_set (j := 1) c.nd (q_call D_turned_in (by decide) c tk (a_cons (s_v 0) (a_nil)) (al_cons (al_nil))))
    (ss_cons (s_ifS (t_cmp (y_lt c) (s_b (c_min c) rfl z_min rfl (a_cons (s_v 1) (a_nil))) (s_int) rfl) (ss_one (s_raise E_NotKept c (by decide) tk (a_cons (s_str) (a_cons (s_v 1) (a_nil))))) (ss_nil))
    (ss_one (s_ret (s_v 1)))))
abbrev s_law : Stmt := top 51
def b_law_l2_1 : Sv := sApp (eV 7) (eTup (aC (eB bMin2 (aC (eV 10) (aC (eV 11) (aN)))) (aC (eB bMax2 (aC (eV 10) (aC (eV 11) (aN)))) (aN))))
def b_law_l2 : Sv := sSeq (sAsg (gT [gN 10, gN 11]) (eTup (aC (e2 oIx (eV 6) (eV 8)) (aC (e2 oIx (eV 6) (eV 9)) (aN)))))
    (b_law_l2_1)
def b_law_l4_1 : Sv := sIf (tB (e2 oNe (e2 oIx (e2 oIx (eV 15) (eV 8)) (eV 9)) (eV 20))) (sRet (eC (.bl false))) (sPass)
def b_law_l4 : Sv := sSeq (sAsg (gN 20) (eIf (tB (e2 oEq (eV 8) (eV 9))) (eV 17) (eIf (tB (e2 oIn (eV 9) (e2 oIx (eV 12) (eV 8)))) (eV 18) (eV 19))))
    (b_law_l4_1)
def b_law_l3 : Sv := sFor (iA (eV 14)) (gN 9) (b_law_l4)
def b_law_l1_16 : Sv := sIf (tB (e2 oIs (eV 13) (eC .non))) (sSeq (sAsg (gN 16) (eCall d_numbers_of (aC (eV 4) (aN))))
    (sSeq (sAsg (gT [gN 17, gN 18, gN 19]) (eSl (eV 16) (oS (eC (.int 1))) (oN)))
    (sSeq (sFor (iA (eV 14)) (gN 8) (b_law_l3))
    (sSeq (sIf (tOr (tB (e2 oNe (e2 oIx (eV 16) (eC (.int 0))) (eV 3))) (tOr (tB (e2 oNe (e2 oMul (eV 17) (e2 oSub (e2 oSub (eV 17) (eV 18)) (eC (.int 1)))) (e2 oMul (e2 oSub (e2 oSub (eV 3) (eV 17)) (eC (.int 1))) (eV 19)))) (tNot (tT (eIs Ty.tuple (eV 16)))))) (sRet (eC (.bl false))) (sPass))
    (sSeq (sAsg (gN 21) (eCall d_complement (aC (eV 4) (aN))))
    (sIf (tOr (tB (e2 oIsNot (eCall d_is_even (aC (eV 21) (aN))) (eC (.bl true)))) (tB (e2 oNe (eCall d_numbers_of (aC (eV 21) (aN))) (eCall d_turned_numbers (aC (eV 16) (aN)))))) (sRet (eC (.bl false))) (sPass))))))) (sPass)
def b_law_l1_15 : Sv := sSeq (sIf (tB (e2 oNe (eB bRepr (aC (eCall d_common_near (aC (eV 4) (aC (eV 8) (aC (eV 9) (aN))))) (aN))) (eB bRepr (aC (eB bTuple (aC (eFrz (lComp (iA (e2 oIx (eV 12) (eV 8))) (gN 23) (tB (e2 oIn (eV 23) (e2 oIx (eV 12) (eV 9)))) (eV 23) [23])) (aN))) (aN))))) (sRet (eC (.bl false))) (sPass))
    (b_law_l1_16)
def b_law_l1_14 : Sv := sSeq (sAsg (gT [gN 8, gN 9]) (eTup (aC (eCall d_u_law_draw (aC (eV 1) (aC (eV 3) (aN)))) (aC (eCall d_u_law_draw (aC (eV 1) (aC (eV 3) (aN)))) (aN)))))
    (b_law_l1_15)
def b_law_l1_13 : Sv := sSeq (sIf (tB (e2 oNe (eB bRepr (aC (eCall d_common_counts (aC (eV 4) (aN))) (aN))) (eB bRepr (aC (eB bTuple (aC (eFrz (lComp (iA (eV 15)) (gN 24) (tYes) (eB bTuple (aC (eV 24) (aN))) [24])) (aN))) (aN))))) (sRet (eC (.bl false))) (sPass))
    (b_law_l1_14)
def b_law_l1_12 : Sv := sSeq (sAsg (gN 15) (eFrz (lComp (iA (eV 14)) (gN 8) (tYes) (eFrz (lComp (iA (eV 14)) (gN 9) (tYes) (eB bLen (aC (eFrz (lComp (iA (e2 oIx (eV 12) (eV 8))) (gN 23) (tB (e2 oIn (eV 23) (e2 oIx (eV 12) (eV 9)))) (eV 23) [23])) (aN))) [9])) [8])))
    (b_law_l1_13)
def b_law_l1_11 : Sv := sSeq (sAsg (gN 14) (eFrz (lRng1 (eV 3))))
    (b_law_l1_12)
def b_law_l1_10 : Sv := sSeq (sIf (tOr (tB (e2 oNe (eB bRepr (aC (eCall d_uneven (aC (eV 4) (aN))) (aN))) (eB bRepr (aC (eV 13) (aN))))) (tNot (tT (eCall d_u_law_is (aC (eCall d_is_even (aC (eV 4) (aN))) (aC (e2 oIs (eV 13) (eC .non)) (aN))))))) (sRet (eC (.bl false))) (sPass))
    (b_law_l1_11)
def b_law_l1_9 : Sv := sSeq (sAsg (gN 13) (eCall d_u_law_uneven (aC (eV 3) (aC (eV 12) (aN)))))
    (b_law_l1_10)
def b_law_l1_8 : Sv := sSeq (sAsg (gN 12) (eCall d_u_law_near (aC (eV 3) (aC (eV 7) (aN)))))
    (b_law_l1_9)
def b_law_l1_7 : Sv := sSeq (sAsg (gN 4) (eCall d_Web (aC (eV 3) (aC (eB bTuple (aC (eFrz (lB mSortA (aC (eV 7) (aN)))) (aN))) (aN)))))
    (b_law_l1_8)
def b_law_l1_6 : Sv := sSeq (sIf (tAnd (tB (e2 oEq (eCall d_u_law_draw (aC (eV 1) (aC (eC (.int 3)) (aN)))) (eC (.int 0)))) (tB (e2 oGt (eV 3) (eC (.int 1))))) (sSeq (sAsg (gTL [gN 10, gN 11]) (eFrz (lB mSortA (aC (eSl (eFrz (lCall d_u_law_mixed (aC (eV 1) (aC (eFrz (lRng1 (eV 3))) (aN))))) (oN) (oS (eC (.int 2)))) (aN)))))
    (sAsg (gN 7) (e2 oAdd (eFrz (lCompX (iX (eV 7)) (gN 22) (tB (e2 oNe (eV 22) (eTup (aC (eV 10) (aC (eV 11) (aN)))))) (eV 22) [22])) (eIf (tB (e2 oIn (eTup (aC (eV 10) (aC (eV 11) (aN)))) (eV 7))) (eFrz (lLst (aN))) (eFrz (lLst (aC (eTup (aC (eV 10) (aC (eV 11) (aN)))) (aN)))))))) (sPass))
    (b_law_l1_7)
def b_law_l1_5 : Sv := sSeq (sFor (iA (e1 (oFld "Web" "ties") (eV 4))) (gT [gN 8, gN 9]) (b_law_l2))
    (b_law_l1_6)
def b_law_l1_4 : Sv := sSeq (sPar 6 7 (aC (eFrz (lCall d_u_law_mixed (aC (eV 1) (aC (eFrz (lRng1 (eV 3))) (aN))))) (aC (eMut (lLst (aN))) aN)))
    (b_law_l1_5)
def b_law_l1_3 : Sv := sSeq (sAsg (gN 3) (e1 (oFld "Web" "places") (eV 4)))
    (b_law_l1_4)
def b_law_l1_2 : Sv := sSeq (sIf (tB (e2 oGt (eV 2) (eC (.int 1)))) (sSeq (sAsg (gN 5) (eFrz (lLst (aC (eCall d_ring_web (aC (eC (.int 5)) (aN))) (aC (eCall d_ring_web (aC (eC (.int 4)) (aN))) (aC (eCall d_ring_web (aC (eC (.int 6)) (aN))) (aC (eCall d_pairs_web (aC (eC (.int 3)) (aN))) (aC (eCall d_pairs_web (aC (eC (.int 4)) (aN))) (aC (eCall d_u_law_point_web (aC (eC (.int 5)) (aC (eC (.bl false)) (aN)))) (aN))))))))))
    (sSeq (sAsg (gN 5) (e2 oAdd (eV 5) (eFrz (lLst (aC (eCall d_u_law_point_web (aC (eC (.int 4)) (aC (eC (.bl true)) (aN)))) (aC (eCall d_u_law_point_web (aC (eC (.int 3)) (aC (eC (.bl true)) (aN)))) (aC (eCall d_u_law_point_web (aC (eC (.int 6)) (aC (eC (.bl false)) (aN)))) (aN))))))))
    (sAsg (gN 4) (eCall d_u_law_pick (aC (eV 1) (aC (eV 5) (aN))))))) (sPass))
    (b_law_l1_3)
def b_law_l1_1 : Sv := sSeq (sAsg (gN 4) (eCall d_Web (aC (eV 3) (aC (eCall d_u_law_ties (aC (eV 1) (aC (eV 3) (aN)))) (aN)))))
    (b_law_l1_2)
def b_law_l1 : Sv := sSeq (sAsg (gN 3) (e2 oAdd (eC (.int 1)) (eCall d_u_law_draw (aC (eV 1) (aC (eC (.int 8)) (aN))))))
    (b_law_l1_1)
def b_law_2 : Sv := sRet (e2 oEq (eCall d_uneven (aC (eCall d_Web (aC (eC (.int 0)) (aC (eTup (aN)) (aN)))) (aN))) (eTup (aC (eC (.str "degree")) (aC (eC (.int 0)) (aN)))))
def b_law_1 : Sv := sSeq (sFor (iR1 (aC (eC (.int 4)) (aN))) (gN 2) (b_law_l1))
    (b_law_2)
def b_law : Sv := sSeq (sAsg (gN 1) (eCall d_u_law_pen (aC (eV 0) (aN))))
    (b_law_1)
def d_law : Fn := fnP 25 b_law
theorem sc_law : FnScope ["script", "pen", "lap", "n", "web", "some", "names", "ties", "p", "q", "one", "two", "near", "due", "every", "counts", "told", "k", "l", "m", "right", "other", "pair", "r", "row"] ["script"] (defScope s_law) := ⟨rfl, rfl, rfl, by decide +kernel, rfl, by decide +kernel, by decide +kernel⟩
theorem fn_law (F : Fun K "law" "law" s_law f fd) (z_range : mg "range" = none) (z_list : mg "list" = none) (z_max : mg "max" = none) (z_min : mg "min" = none) (z_sorted : mg "sorted" = none) (z_tuple : mg "tuple" = none) (z_repr : mg "repr" = none) (z_len : mg "len" = none) (z_isinstance : mg "isinstance" = none) (O_Web : Ocl K mg "Web" ["places", "ties", "near"])    (D_u_law_pen : Def P w K mg base 1 "_law_pen" ["script"] (spP K cl 1 d_u_law_pen)) (D_u_law_draw : Def P w K mg base 1 "_law_draw" ["pen", "many"] (spP K cl 2 d_u_law_draw)) (D_Web : MkD P w K cl mg base 6 "Web" ["self", "places", "ties"] 2 d_Web) (D_u_law_ties : Def P w K mg base 2 "_law_ties" ["pen", "n"] (spP K cl 2 d_u_law_ties)) (D_u_law_point_web : Def P w K mg base 8 "_law_point_web" ["a", "is_square"] (spP K cl 2 d_u_law_point_web)) (D_pairs_web : Def P w K mg base 8 "pairs_web" ["n"] (spP K cl 1 d_pairs_web)) (D_ring_web : Def P w K mg base 9 "ring_web" ["n"] (spP K cl 1 d_ring_web)) (D_u_law_pick : Def P w K mg base 2 "_law_pick" ["pen", "some"] (spP K cl 2 d_u_law_pick)) (D_u_law_mixed : Def P w K mg base 2 "_law_mixed" ["pen", "some"] (spL K cl 2 d_u_law_mixed)) (D_u_law_near : Def P w K mg base 1 "_law_near" ["n", "ties"] (spP K cl 2 d_u_law_near)) (D_u_law_uneven : Def P w K mg base 1 "_law_uneven" ["n", "near"] (spP K cl 2 d_u_law_uneven)) (D_uneven : Def P w K mg base 4 "uneven" ["web"] (spP K cl 1 d_uneven)) (D_u_law_is : Def P w K mg base 1 "_law_is" ["told", "due"] (spP K cl 2 d_u_law_is)) (D_is_even : Def P w K mg base 4 "is_even" ["web"] (spP K cl 1 d_is_even)) (D_common_counts : Def P w K mg base 4 "common_counts" ["web"] (spP K cl 1 d_common_counts)) (D_common_near : Def P w K mg base 5 "common_near" ["web", "p", "q"] (spP K cl 3 d_common_near)) (D_numbers_of : Def P w K mg base 4 "numbers_of" ["web"] (spP K cl 1 d_numbers_of)) (D_complement : Def P w K mg base 9 "complement" ["web"] (spP K cl 1 d_complement)) (D_turned_numbers : Def P w K mg base 5 "turned_numbers" ["numbers"] (spP K cl 1 d_turned_numbers)) :
    FnG P w K mg base 10 f fd ["script"] (spP K cl 1 d_law) := by
  refine fn_P (N := ["script", "pen", "lap", "n", "web", "some", "names", "ties", "p", "q", "one", "two", "near", "due", "every", "counts", "told", "k", "l", "m", "right", "other", "pair", "r", "row"]) F sc_law ?_
  rintro ⟨prog, w2, K2, mg2, base2, A, N, s0, H0, ⟨sc, lo, gl, ce, qu, fu, co, fr, bl⟩, outer, stack, ex, fn, calm, pn, xe⟩ e1 e2 e3 e4 e5 e6 e7 e8 e9 e10 E c tk hp
  dsimp only at e1 e2 e3 e4 e5 e6 e7 e8 e9 e10
  subst e1 e2 e3 e4 e5 e6 e7 e8 e9 e10
  exact ss_cons (s_set (j := 1) c.nd (q_call D_u_law_pen (by decide) c tk (a_cons (s_v 0) (a_nil)) (al_cons (al_nil))))
    (ss_cons (s_for hp c.calm (i_r1 rfl z_range (a_cons (s_int) (a_nil))) (g_n 2 c.nd) (ss_cons (s_set (j := 3) c.nd (s_op y_add (s_int) (q_call D_u_law_draw (by decide) c tk (a_cons (s_v 1) (a_cons (s_int) (a_nil))) (al_cons (al_cons (al_nil))))))
    (ss_cons (s_set (j := 4) c.nd (q_mk D_Web (by decide) c tk (a_cons (s_v 3) (a_cons (q_call D_u_law_ties (by decide) c tk (a_cons (s_v 1) (a_cons (s_v 3) (a_nil))) (al_cons (al_cons (al_nil)))) (a_nil))) (al_cons (al_cons (al_nil)))))
    (ss_cons (s_ifS (t_cmp y_gt (s_v 2) (s_int) rfl) (ss_cons (s_set (j := 5) c.nd (s_frz (l_lst (a_cons (q_call D_ring_web (by decide) c tk (a_cons (s_int) (a_nil)) (al_cons (al_nil))) (a_cons (q_call D_ring_web (by decide) c tk (a_cons (s_int) (a_nil)) (al_cons (al_nil))) (a_cons (q_call D_ring_web (by decide) c tk (a_cons (s_int) (a_nil)) (al_cons (al_nil))) (a_cons (q_call D_pairs_web (by decide) c tk (a_cons (s_int) (a_nil)) (al_cons (al_nil))) (a_cons (q_call D_pairs_web (by decide) c tk (a_cons (s_int) (a_nil)) (al_cons (al_nil))) (a_cons (q_call D_u_law_point_web (by decide) c tk (a_cons (s_int) (a_cons (s_bl) (a_nil))) (al_cons (al_cons (al_nil)))) (a_nil))))))))))
    (ss_cons (s_set (j := 5) c.nd (s_op y_add (s_v 5) (s_frz (l_lst (a_cons (q_call D_u_law_point_web (by decide) c tk (a_cons (s_int) (a_cons (s_bl) (a_nil))) (al_cons (al_cons (al_nil)))) (a_cons (q_call D_u_law_point_web (by decide) c tk (a_cons (s_int) (a_cons (s_bl) (a_nil))) (al_cons (al_cons (al_nil)))) (a_cons (q_call D_u_law_point_web (by decide) c tk (a_cons (s_int) (a_cons (s_bl) (a_nil))) (al_cons (al_cons (al_nil)))) (a_nil))))))))
    (ss_one (s_set (j := 4) c.nd (q_call D_u_law_pick (by decide) c tk (a_cons (s_v 1) (a_cons (s_v 5) (a_nil))) (al_cons (al_cons (al_nil)))))))) (ss_nil))
    (ss_cons (s_set (j := 3) c.nd (s_fl O_Web "places" (by decide) (s_v 4)))
    (ss_cons (s_par (j := 6) (l := 7) c.calm c.nd (a_cons (s_frz (q_callL D_u_law_mixed (by decide) c tk (a_cons (s_v 1) (a_cons (s_frz (l_rng1 c.calm rfl z_list rfl z_range (s_v 3))) (a_nil))) (al_cons (al_cons (al_nil))))) (a_cons (s_mut (l_lst (a_nil))) a_nil)))
    (ss_cons (s_for hp c.calm (i_any (s_fl O_Web "ties" (by decide) (s_v 4))) (g_tup c.calm (gs_cons (g_n 8 c.nd) (gs_cons (g_n 9 c.nd) (gs_nil)))) (ss_cons (s_asg (s_tup (a_cons (s_ix c (s_v 6) (s_v 8) (fun _ _ => rfl)) (a_cons (s_ix c (s_v 6) (s_v 9) (fun _ _ => rfl)) (a_nil)))) (g_tup c.calm (gs_cons (g_n 10 c.nd) (gs_cons (g_n 11 c.nd) (gs_nil)))))
    (ss_one (s_app (s_v 7) (s_tup (a_cons (s_b (c_min2 c.calm) rfl z_min rfl (a_cons (s_v 10) (a_cons (s_v 11) (a_nil)))) (a_cons (s_b (c_max2 c.calm) rfl z_max rfl (a_cons (s_v 10) (a_cons (s_v 11) (a_nil)))) (a_nil)))) (fun h1 h2 => pe_bm PySem.F.plainAttrs_list PySem.F.slot_list_append PySem.F.type_list_append mt_append h1 h2)))))
    (ss_cons (s_ifS (t_w (w_and (t_cmp (y_eq c) (q_call D_u_law_draw (by decide) c tk (a_cons (s_v 1) (a_cons (s_int) (a_nil))) (al_cons (al_cons (al_nil)))) (s_int) rfl) (w_and1 (t_cmp y_gt (s_v 3) (s_int) rfl)))) (ss_cons (s_asg (s_frz (l_b (c_sortA c) rfl z_sorted rfl (a_cons (s_sl (s_frz (q_callL D_u_law_mixed (by decide) c tk (a_cons (s_v 1) (a_cons (s_frz (l_rng1 c.calm rfl z_list rfl z_range (s_v 3))) (a_nil))) (al_cons (al_cons (al_nil))))) (o_none) (o_some (s_int))) (a_nil)))) (g_unl c.calm (gs_cons (g_n 10 c.nd) (gs_cons (g_n 11 c.nd) (gs_nil)))))
    (ss_one (s_set (j := 7) c.nd (s_op y_add (s_frz (l_compX c (i_X (s_v 7)) (own := [("pair", 22)]) (blkOk_by rfl) (by decide) (fun s H C cc fp => g_n 22 (c.blk).nd) (fun s H C cc fp => ts_one (t_cmp (y_ne (c.blk)) (s_v 22) (s_tup (a_cons (s_v 10) (a_cons (s_v 11) (a_nil)))) rfl)) (fun s H C cc fp => s_v 22))) (s_if (t_cmp (y_in c) (s_tup (a_cons (s_v 10) (a_cons (s_v 11) (a_nil)))) (s_v 7) rfl) (s_frz (l_lst (a_nil))) (s_frz (l_lst (a_cons (s_tup (a_cons (s_v 10) (a_cons (s_v 11) (a_nil)))) (a_nil))))))))) (ss_nil))
    (ss_cons (s_set (j := 4) c.nd (q_mk D_Web (by decide) c tk (a_cons (s_v 3) (a_cons (s_bT c_tuple rfl z_tuple rfl (a_cons (s_frz (l_b (c_sortA c) rfl z_sorted rfl (a_cons (s_v 7) (a_nil)))) (a_nil))) (a_nil))) (al_cons (al_cons (al_nil)))))
    (ss_cons (s_set (j := 12) c.nd (q_call D_u_law_near (by decide) c tk (a_cons (s_v 3) (a_cons (s_v 7) (a_nil))) (al_cons (al_cons (al_nil)))))
    (ss_cons (s_set (j := 13) c.nd (q_call D_u_law_uneven (by decide) c tk (a_cons (s_v 3) (a_cons (s_v 12) (a_nil))) (al_cons (al_cons (al_nil)))))
    (ss_cons (s_ifS (t_w (w_or (t_cmp (y_ne c) (s_b (c_repr c) rfl z_repr rfl (a_cons (q_call D_uneven (by decide) c tk (a_cons (s_v 4) (a_nil)) (al_cons (al_nil))) (a_nil))) (s_b (c_repr c) rfl z_repr rfl (a_cons (s_v 13) (a_nil))) rfl) (w_or1 (t_not (t_tr (q_call D_u_law_is (by decide) c tk (a_cons (q_call D_is_even (by decide) c tk (a_cons (s_v 4) (a_nil)) (al_cons (al_nil))) (a_cons (s_cmp y_is (s_v 13) (s_non) rfl) (a_nil))) (al_cons (al_cons (al_nil))))))))) (ss_one (s_ret (s_bl))) (ss_nil))
    (ss_cons (s_set (j := 14) c.nd (s_frz (l_rng1 c.calm rfl z_list rfl z_range (s_v 3))))
    (ss_cons (s_setComp (i := 15) c rfl rfl rfl (i_any (s_v 14)) (own := [("p", 8)]) (blkOk_by rfl) (by decide) (fun s H C cc fp => g_n 8 (c.blk).nd) (fun s H C cc fp => ts_nil) (fun s H C cc fp => s_frz (l_comp (c.blk) (i_any (s_v 14)) (own := [("q", 9)]) (blkOk_by rfl) (by decide) (fun s H C cc fp => g_n 9 ((c.blk).blk).nd) (fun s H C cc fp => ts_nil) (fun s H C cc fp => s_b c_len rfl z_len rfl (a_cons (s_frz (l_comp ((c.blk).blk) (i_any (s_ix ((c.blk).blk) (s_v 12) (s_v 8) (fun _ _ => rfl))) (own := [("r", 23)]) (blkOk_by rfl) (by decide) (fun s H C cc fp => g_n 23 (((c.blk).blk).blk).nd) (fun s H C cc fp => ts_one (t_cmp (y_in (((c.blk).blk).blk)) (s_v 23) (s_ix (((c.blk).blk).blk) (s_v 12) (s_v 9) (fun _ _ => rfl)) rfl)) (fun s H C cc fp => s_v 23))) (a_nil))))))
    (ss_cons (s_ifS (t_cmp (y_ne c) (s_b (c_repr c) rfl z_repr rfl (a_cons (q_call D_common_counts (by decide) c tk (a_cons (s_v 4) (a_nil)) (al_cons (al_nil))) (a_nil))) (s_b (c_repr c) rfl z_repr rfl (a_cons (s_bT c_tuple rfl z_tuple rfl (a_cons (s_frz (l_comp c (i_any (s_v 15)) (own := [("row", 24)]) (blkOk_by rfl) (by decide) (fun s H C cc fp => g_n 24 (c.blk).nd) (fun s H C cc fp => ts_nil) (fun s H C cc fp => s_bT c_tuple rfl z_tuple rfl (a_cons (s_v 24) (a_nil))))) (a_nil))) (a_nil))) rfl) (ss_one (s_ret (s_bl))) (ss_nil))
    (ss_cons (s_asg (s_tup (a_cons (q_call D_u_law_draw (by decide) c tk (a_cons (s_v 1) (a_cons (s_v 3) (a_nil))) (al_cons (al_cons (al_nil)))) (a_cons (q_call D_u_law_draw (by decide) c tk (a_cons (s_v 1) (a_cons (s_v 3) (a_nil))) (al_cons (al_cons (al_nil)))) (a_nil)))) (g_tup c.calm (gs_cons (g_n 8 c.nd) (gs_cons (g_n 9 c.nd) (gs_nil)))))
    (ss_cons (s_ifS (t_cmp (y_ne c) (s_b (c_repr c) rfl z_repr rfl (a_cons (q_call D_common_near (by decide) c tk (a_cons (s_v 4) (a_cons (s_v 8) (a_cons (s_v 9) (a_nil)))) (al_cons (al_cons (al_cons (al_nil))))) (a_nil))) (s_b (c_repr c) rfl z_repr rfl (a_cons (s_bT c_tuple rfl z_tuple rfl (a_cons (s_frz (l_comp c (i_any (s_ix c (s_v 12) (s_v 8) (fun _ _ => rfl))) (own := [("r", 23)]) (blkOk_by rfl) (by decide) (fun s H C cc fp => g_n 23 (c.blk).nd) (fun s H C cc fp => ts_one (t_cmp (y_in (c.blk)) (s_v 23) (s_ix (c.blk) (s_v 12) (s_v 9) (fun _ _ => rfl)) rfl)) (fun s H C cc fp => s_v 23))) (a_nil))) (a_nil))) rfl) (ss_one (s_ret (s_bl))) (ss_nil))
    (ss_one (s_ifS (t_cmp y_is (s_v 13) (s_non) rfl) (ss_cons (s_set (j := 16) c.nd (q_call D_numbers_of (by decide) c tk (a_cons (s_v 4) (a_nil)) (al_cons (al_nil))))
    (ss_cons (s_asg (s_sl (s_v 16) (o_some (s_int)) (o_none)) (g_tup c.calm (gs_cons (g_n 17 c.nd) (gs_cons (g_n 18 c.nd) (gs_cons (g_n 19 c.nd) (gs_nil))))))
    (ss_cons (s_for hp c.calm (i_any (s_v 14)) (g_n 8 c.nd) (ss_one (s_for hp c.calm (i_any (s_v 14)) (g_n 9 c.nd) (ss_cons (s_set (j := 20) c.nd (s_if (t_cmp (y_eq c) (s_v 8) (s_v 9) rfl) (s_v 17) (s_if (t_cmp (y_in c) (s_v 9) (s_ix c (s_v 12) (s_v 8) (fun _ _ => rfl)) rfl) (s_v 18) (s_v 19))))
    (ss_one (s_ifS (t_cmp (y_ne c) (s_ix c (s_ix c (s_v 15) (s_v 8) (fun _ _ => rfl)) (s_v 9) (fun _ _ => rfl)) (s_v 20) rfl) (ss_one (s_ret (s_bl))) (ss_nil)))))))
    (ss_cons (s_ifS (t_w (w_or (t_cmp (y_ne c) (s_ix c (s_v 16) (s_int) (fun _ _ => rfl)) (s_v 3) rfl) (w_or (t_cmp (y_ne c) (s_op y_mul (s_v 17) (s_op y_sub (s_op y_sub (s_v 17) (s_v 18)) (s_int))) (s_op y_mul (s_op y_sub (s_op y_sub (s_v 3) (s_v 17)) (s_int)) (s_v 19)) rfl) (w_or1 (t_not (t_tr (s_isi Ty.tuple (s_v 16) (hm := z_isinstance) (hm2 := z_tuple) (hb := rfl) (hn := by decide) (hd := by decide)))))))) (ss_one (s_ret (s_bl))) (ss_nil))
    (ss_cons (s_set (j := 21) c.nd (q_call D_complement (by decide) c tk (a_cons (s_v 4) (a_nil)) (al_cons (al_nil))))
    (ss_one (s_ifS (t_w (w_or (t_cmp y_isNot (q_call D_is_even (by decide) c tk (a_cons (s_v 21) (a_nil)) (al_cons (al_nil))) (s_bl) rfl) (w_or1 (t_cmp (y_ne c) (q_call D_numbers_of (by decide) c tk (a_cons (s_v 21) (a_nil)) (al_cons (al_nil))) (q_call D_turned_numbers (by decide) c tk (a_cons (s_v 16) (a_nil)) (al_cons (al_nil))) rfl)))) (ss_one (s_ret (s_bl))) (ss_nil)))))))) (ss_nil))))))))))))))))))))
    (ss_one (s_ret (s_cmp (y_eq c) (q_call D_uneven (by decide) c tk (a_cons (q_mk D_Web (by decide) c tk (a_cons (s_int) (a_cons (s_tup (a_nil)) (a_nil))) (al_cons (al_cons (al_nil)))) (a_nil)) (al_cons (al_nil))) (s_tup (a_cons (s_str) (a_cons (s_int) (a_nil)))) rfl))))
end
end K25
end

section
set_option Elab.async false
set_option linter.all false
set_option maxRecDepth 100000
namespace K25
open PySem PySem.Spec PyProof.Rows L2 Y
abbrev s_E_BadNumber : Stmt := (clsB (top 2)).getD 0 (.Pass ⟨0, 0, 0, 0⟩)
theorem sc_E_BadNumber : FnScope ["self", "what", "number"] ["self", "what", "number"] (defScope s_E_BadNumber) := ⟨rfl, rfl, rfl, by decide +kernel, rfl, by decide +kernel, by decide +kernel⟩
abbrev s_E_BadWeb : Stmt := (clsB (top 3)).getD 0 (.Pass ⟨0, 0, 0, 0⟩)
theorem sc_E_BadWeb : FnScope ["self", "web"] ["self", "web"] (defScope s_E_BadWeb) := ⟨rfl, rfl, rfl, by decide +kernel, rfl, by decide +kernel, by decide +kernel⟩
abbrev s_E_BadRow : Stmt := (clsB (top 4)).getD 0 (.Pass ⟨0, 0, 0, 0⟩)
theorem sc_E_BadRow : FnScope ["self", "row"] ["self", "row"] (defScope s_E_BadRow) := ⟨rfl, rfl, rfl, by decide +kernel, rfl, by decide +kernel, by decide +kernel⟩
abbrev s_E_NotKept : Stmt := (clsB (top 5)).getD 0 (.Pass ⟨0, 0, 0, 0⟩)
theorem sc_E_NotKept : FnScope ["self", "promise", "witness"] ["self", "promise", "witness"] (defScope s_E_NotKept) := ⟨rfl, rfl, rfl, by decide +kernel, rfl, by decide +kernel, by decide +kernel⟩
set_option maxHeartbeats 0 in
theorem all_mk {P : Program} {w : World} {K : PySem.W.Frag} {h : Heap} {mg : Str → Option Value} (X : K.In h) (G : h.Ns mainGlobals mg)
    {fa : Addr}
    {C_BadNumber : Addr}
    (n_BadNumber : PySem.W.nsIn K mainGlobals "BadNumber" = some (some (.ref C_BadNumber)))
    {C_BadWeb : Addr}
    (n_BadWeb : PySem.W.nsIn K mainGlobals "BadWeb" = some (some (.ref C_BadWeb)))
    {C_BadRow : Addr}
    (n_BadRow : PySem.W.nsIn K mainGlobals "BadRow" = some (some (.ref C_BadRow)))
    {C_NotKept : Addr}
    (n_NotKept : PySem.W.nsIn K mainGlobals "NotKept" = some (some (.ref C_NotKept)))
    (eC_BadNumber : PySem.W.subIn K (.ref C_BadNumber) (.type "BaseException") = some true)
    (tC_BadNumber : PySem.W.typeIn K (.ref C_BadNumber) = some (.type "type"))
    {nm_BadNumber qn_BadNumber : Str} {N_BadNumber : _} {bs_BadNumber : _} {sn_BadNumber : _} {sb_BadNumber : _} {ab_BadNumber : _} {co_BadNumber : _} {dd_BadNumber : _} {m0_BadNumber m1_BadNumber m2_BadNumber m3_BadNumber m5_BadNumber : _}
    (x_BadNumber : K.lookup C_BadNumber = some (excClassObj nm_BadNumber qn_BadNumber C_BadNumber N_BadNumber bs_BadNumber [.ref C_LineError, .type "ValueError", .type "Exception", .type "BaseException", .type "object"] true sn_BadNumber sb_BadNumber ab_BadNumber co_BadNumber dd_BadNumber m0_BadNumber m1_BadNumber m2_BadNumber m3_BadNumber m5_BadNumber "ValueError.__new__"))
    (sa_BadNumber : PySem.W.findIn K (.ref C_BadNumber) "__setattr__" = some (some (.builtin "object.__setattr__")))
    (kC_BadNumber : PySem.W.keepIn K (.ref C_BadNumber) = true)
    {f42 : Addr}
    (i_BadNumber : PySem.W.findIn K (.ref C_BadNumber) "__init__" = some (some (.ref f42)))
    (ti_BadNumber : PySem.W.typeIn K (.ref f42) = some (.type "function"))
    {od42 an42 : Option Addr} {sl42 : Array (Option Value)} {oc42 kV42 dc42 pm42 cd42 ct42 : Value}
    (l42 : K.lookup f42 = some ⟨oc42, od42, .func (PySem.W.fnOf "__init__" "BadNumber.__init__" (defArgs s_E_BadNumber) (defBody s_E_BadNumber) (defScope s_E_BadNumber) .none kV42 dc42 pm42 an42 cd42 ct42), sl42⟩)
    (c42 : PySem.W.codeIn K cd42 "BadNumber.__init__" = true)
    (k42 : PySem.W.keepIn K (.ref f42) = true)
    (no_BadNumber_what : PySem.W.findIn K (.ref C_BadNumber) "what" = some none)
    (no_BadNumber_number : PySem.W.findIn K (.ref C_BadNumber) "number" = some none)
    (eC_BadWeb : PySem.W.subIn K (.ref C_BadWeb) (.type "BaseException") = some true)
    (tC_BadWeb : PySem.W.typeIn K (.ref C_BadWeb) = some (.type "type"))
    {nm_BadWeb qn_BadWeb : Str} {N_BadWeb : _} {bs_BadWeb : _} {sn_BadWeb : _} {sb_BadWeb : _} {ab_BadWeb : _} {co_BadWeb : _} {dd_BadWeb : _} {m0_BadWeb m1_BadWeb m2_BadWeb m3_BadWeb m5_BadWeb : _}
    (x_BadWeb : K.lookup C_BadWeb = some (excClassObj nm_BadWeb qn_BadWeb C_BadWeb N_BadWeb bs_BadWeb [.ref C_LineError, .type "ValueError", .type "Exception", .type "BaseException", .type "object"] true sn_BadWeb sb_BadWeb ab_BadWeb co_BadWeb dd_BadWeb m0_BadWeb m1_BadWeb m2_BadWeb m3_BadWeb m5_BadWeb "ValueError.__new__"))
    (sa_BadWeb : PySem.W.findIn K (.ref C_BadWeb) "__setattr__" = some (some (.builtin "object.__setattr__")))
    (kC_BadWeb : PySem.W.keepIn K (.ref C_BadWeb) = true)
    {f43 : Addr}
    (i_BadWeb : PySem.W.findIn K (.ref C_BadWeb) "__init__" = some (some (.ref f43)))
    (ti_BadWeb : PySem.W.typeIn K (.ref f43) = some (.type "function"))
    {od43 an43 : Option Addr} {sl43 : Array (Option Value)} {oc43 kV43 dc43 pm43 cd43 ct43 : Value}
    (l43 : K.lookup f43 = some ⟨oc43, od43, .func (PySem.W.fnOf "__init__" "BadWeb.__init__" (defArgs s_E_BadWeb) (defBody s_E_BadWeb) (defScope s_E_BadWeb) .none kV43 dc43 pm43 an43 cd43 ct43), sl43⟩)
    (c43 : PySem.W.codeIn K cd43 "BadWeb.__init__" = true)
    (k43 : PySem.W.keepIn K (.ref f43) = true)
    (no_BadWeb_web : PySem.W.findIn K (.ref C_BadWeb) "web" = some none)
    (eC_BadRow : PySem.W.subIn K (.ref C_BadRow) (.type "BaseException") = some true)
    (tC_BadRow : PySem.W.typeIn K (.ref C_BadRow) = some (.type "type"))
    {nm_BadRow qn_BadRow : Str} {N_BadRow : _} {bs_BadRow : _} {sn_BadRow : _} {sb_BadRow : _} {ab_BadRow : _} {co_BadRow : _} {dd_BadRow : _} {m0_BadRow m1_BadRow m2_BadRow m3_BadRow m5_BadRow : _}
    (x_BadRow : K.lookup C_BadRow = some (excClassObj nm_BadRow qn_BadRow C_BadRow N_BadRow bs_BadRow [.ref C_LineError, .type "ValueError", .type "Exception", .type "BaseException", .type "object"] true sn_BadRow sb_BadRow ab_BadRow co_BadRow dd_BadRow m0_BadRow m1_BadRow m2_BadRow m3_BadRow m5_BadRow "ValueError.__new__"))
    (sa_BadRow : PySem.W.findIn K (.ref C_BadRow) "__setattr__" = some (some (.builtin "object.__setattr__")))
    (kC_BadRow : PySem.W.keepIn K (.ref C_BadRow) = true)
    {f44 : Addr}
    (i_BadRow : PySem.W.findIn K (.ref C_BadRow) "__init__" = some (some (.ref f44)))
    (ti_BadRow : PySem.W.typeIn K (.ref f44) = some (.type "function"))
    {od44 an44 : Option Addr} {sl44 : Array (Option Value)} {oc44 kV44 dc44 pm44 cd44 ct44 : Value}
    (l44 : K.lookup f44 = some ⟨oc44, od44, .func (PySem.W.fnOf "__init__" "BadRow.__init__" (defArgs s_E_BadRow) (defBody s_E_BadRow) (defScope s_E_BadRow) .none kV44 dc44 pm44 an44 cd44 ct44), sl44⟩)
    (c44 : PySem.W.codeIn K cd44 "BadRow.__init__" = true)
    (k44 : PySem.W.keepIn K (.ref f44) = true)
    (no_BadRow_row : PySem.W.findIn K (.ref C_BadRow) "row" = some none)
    (eC_NotKept : PySem.W.subIn K (.ref C_NotKept) (.type "BaseException") = some true)
    (tC_NotKept : PySem.W.typeIn K (.ref C_NotKept) = some (.type "type"))
    {nm_NotKept qn_NotKept : Str} {N_NotKept : _} {bs_NotKept : _} {sn_NotKept : _} {sb_NotKept : _} {ab_NotKept : _} {co_NotKept : _} {dd_NotKept : _} {m0_NotKept m1_NotKept m2_NotKept m3_NotKept m5_NotKept : _}
    (x_NotKept : K.lookup C_NotKept = some (excClassObj nm_NotKept qn_NotKept C_NotKept N_NotKept bs_NotKept [.ref C_LineError, .type "ValueError", .type "Exception", .type "BaseException", .type "object"] true sn_NotKept sb_NotKept ab_NotKept co_NotKept dd_NotKept m0_NotKept m1_NotKept m2_NotKept m3_NotKept m5_NotKept "ValueError.__new__"))
    (sa_NotKept : PySem.W.findIn K (.ref C_NotKept) "__setattr__" = some (some (.builtin "object.__setattr__")))
    (kC_NotKept : PySem.W.keepIn K (.ref C_NotKept) = true)
    {f45 : Addr}
    (i_NotKept : PySem.W.findIn K (.ref C_NotKept) "__init__" = some (some (.ref f45)))
    (ti_NotKept : PySem.W.typeIn K (.ref f45) = some (.type "function"))
    {od45 an45 : Option Addr} {sl45 : Array (Option Value)} {oc45 kV45 dc45 pm45 cd45 ct45 : Value}
    (l45 : K.lookup f45 = some ⟨oc45, od45, .func (PySem.W.fnOf "__init__" "NotKept.__init__" (defArgs s_E_NotKept) (defBody s_E_NotKept) (defScope s_E_NotKept) .none kV45 dc45 pm45 an45 cd45 ct45), sl45⟩)
    (c45 : PySem.W.codeIn K cd45 "NotKept.__init__" = true)
    (k45 : PySem.W.keepIn K (.ref f45) = true)
    (no_NotKept_promise : PySem.W.findIn K (.ref C_NotKept) "promise" = some none)
    (no_NotKept_witness : PySem.W.findIn K (.ref C_NotKept) "witness" = some none)
    (gcO : PySem.W.specialIn K (.builtin "object.__class__") "__get__" = some (some (.builtin "getset_descriptor.__get__")))
    (tcO : PySem.W.takesIn K (.builtin "object.__class__") = some true)
    {C_Web : Addr}
    (n_Web : PySem.W.nsIn K mainGlobals "Web" = some (some (.ref C_Web)))
    (pg_Web : PySem.W.plainGet K C_Web Str.empty = true)
    (hd_Web : PySem.W.hasDictIn K C_Web = true)
    (po_Web : PySem.W.plainOver K C_Web = true)
    (sa_Web : PySem.W.findIn K (.ref C_Web) "__setattr__" = some (some (.builtin "object.__setattr__")))
    (hc_Web : PySem.W.findIn K (.ref C_Web) "__class__" = some (some (.builtin "object.__class__")))
    (mc_Web : PySem.W.mroIn K C_Web (.type "object") = some true)
    (ic_Web : PySem.W.isClsIn K C_Web = true)
    (tC_Web : PySem.W.typeIn K (.ref C_Web) = some (.type "type"))
    (ot_Web_NoneType : PySem.W.subIn K (.type "NoneType") (.ref C_Web) = some false)
    (ot_Web_bool : PySem.W.subIn K (.type "bool") (.ref C_Web) = some false)
    (ot_Web_int : PySem.W.subIn K (.type "int") (.ref C_Web) = some false)
    (ot_Web_str : PySem.W.subIn K (.type "str") (.ref C_Web) = some false)
    (ot_Web_tuple : PySem.W.subIn K (.type "tuple") (.ref C_Web) = some false)
    (ot_Web_list : PySem.W.subIn K (.type "list") (.ref C_Web) = some false)
    (ot_Web_dict : PySem.W.subIn K (.type "dict") (.ref C_Web) = some false)
    (no_Web_places : PySem.W.findIn K (.ref C_Web) "places" = some none)
    (no_Web_ties : PySem.W.findIn K (.ref C_Web) "ties" = some none)
    (no_Web_near : PySem.W.findIn K (.ref C_Web) "near" = some none)
    {f0 : Addr}
    (a0 : PySem.W.nsIn K mainGlobals "_law_pen" = some (some (.ref f0)))
    {od0 an0 : Option Addr} {sl0 : Array (Option Value)} {oc0 kV0 dc0 pm0 cd0 ct0 : Value}
    (l0 : K.lookup f0 = some ⟨oc0, od0, .func (PySem.W.fnOf "_law_pen" "_law_pen" (defArgs s_u_law_pen) (defBody s_u_law_pen) (defScope s_u_law_pen) .none kV0 dc0 pm0 an0 cd0 ct0), sl0⟩)
    (c0 : PySem.W.codeIn K cd0 "_law_pen" = true)
    (k0 : PySem.W.keepIn K (.ref f0) = true)
    {f1 : Addr}
    (a1 : PySem.W.nsIn K mainGlobals "near_lots" = some (some (.ref f1)))
    {od1 an1 : Option Addr} {sl1 : Array (Option Value)} {oc1 kV1 dc1 pm1 cd1 ct1 : Value}
    (l1 : K.lookup f1 = some ⟨oc1, od1, .func (PySem.W.fnOf "near_lots" "near_lots" (defArgs s_near_lots) (defBody s_near_lots) (defScope s_near_lots) .none kV1 dc1 pm1 an1 cd1 ct1), sl1⟩)
    (c1 : PySem.W.codeIn K cd1 "near_lots" = true)
    (k1 : PySem.W.keepIn K (.ref f1) = true)
    {f2 : Addr}
    (a2 : PySem.W.nsIn K mainGlobals "is_whole" = some (some (.ref f2)))
    {od2 an2 : Option Addr} {sl2 : Array (Option Value)} {oc2 kV2 dc2 pm2 cd2 ct2 : Value}
    (l2 : K.lookup f2 = some ⟨oc2, od2, .func (PySem.W.fnOf "is_whole" "is_whole" (defArgs s_is_whole) (defBody s_is_whole) (defScope s_is_whole) .none kV2 dc2 pm2 an2 cd2 ct2), sl2⟩)
    (c2 : PySem.W.codeIn K cd2 "is_whole" = true)
    (k2 : PySem.W.keepIn K (.ref f2) = true)
    {f3 : Addr}
    (a3 : PySem.W.nsIn K mainGlobals "is_count" = some (some (.ref f3)))
    {od3 an3 : Option Addr} {sl3 : Array (Option Value)} {oc3 kV3 dc3 pm3 cd3 ct3 : Value}
    (l3 : K.lookup f3 = some ⟨oc3, od3, .func (PySem.W.fnOf "is_count" "is_count" (defArgs s_is_count) (defBody s_is_count) (defScope s_is_count) .none kV3 dc3 pm3 an3 cd3 ct3), sl3⟩)
    (c3 : PySem.W.codeIn K cd3 "is_count" = true)
    (k3 : PySem.W.keepIn K (.ref f3) = true)
    {f4 : Addr}
    (a4 : PySem.W.nsIn K mainGlobals "is_place_of" = some (some (.ref f4)))
    {od4 an4 : Option Addr} {sl4 : Array (Option Value)} {oc4 kV4 dc4 pm4 cd4 ct4 : Value}
    (l4 : K.lookup f4 = some ⟨oc4, od4, .func (PySem.W.fnOf "is_place_of" "is_place_of" (defArgs s_is_place_of) (defBody s_is_place_of) (defScope s_is_place_of) .none kV4 dc4 pm4 an4 cd4 ct4), sl4⟩)
    (c4 : PySem.W.codeIn K cd4 "is_place_of" = true)
    (k4 : PySem.W.keepIn K (.ref f4) = true)
    {f5 : Addr}
    (a5 : PySem.W.nsIn K mainGlobals "is_tie" = some (some (.ref f5)))
    {od5 an5 : Option Addr} {sl5 : Array (Option Value)} {oc5 kV5 dc5 pm5 cd5 ct5 : Value}
    (l5 : K.lookup f5 = some ⟨oc5, od5, .func (PySem.W.fnOf "is_tie" "is_tie" (defArgs s_is_tie) (defBody s_is_tie) (defScope s_is_tie) .none kV5 dc5 pm5 an5 cd5 ct5), sl5⟩)
    (c5 : PySem.W.codeIn K cd5 "is_tie" = true)
    (k5 : PySem.W.keepIn K (.ref f5) = true)
    {f6 : Addr}
    (a6 : PySem.W.nsIn K mainGlobals "are_ties" = some (some (.ref f6)))
    {od6 an6 : Option Addr} {sl6 : Array (Option Value)} {oc6 kV6 dc6 pm6 cd6 ct6 : Value}
    (l6 : K.lookup f6 = some ⟨oc6, od6, .func (PySem.W.fnOf "are_ties" "are_ties" (defArgs s_are_ties) (defBody s_are_ties) (defScope s_are_ties) .none kV6 dc6 pm6 an6 cd6 ct6), sl6⟩)
    (c6 : PySem.W.codeIn K cd6 "are_ties" = true)
    (k6 : PySem.W.keepIn K (.ref f6) = true)
    {f7 : Addr}
    (mk_Web : PySem.W.makesIn K C_Web = true)
    (i_Web : PySem.W.findIn K (.ref C_Web) "__init__" = some (some (.ref f7)))
    (if_Web : PySem.W.isFn K (.ref f7) = true)
    (kC_Web : PySem.W.keepIn K (.ref C_Web) = true)
    {od7 an7 : Option Addr} {sl7 : Array (Option Value)} {oc7 kV7 dc7 pm7 cd7 ct7 : Value}
    (l7 : K.lookup f7 = some ⟨oc7, od7, .func (PySem.W.fnOf "__init__" "Web.__init__" (defArgs s_Web) (defBody s_Web) (defScope s_Web) .none kV7 dc7 pm7 an7 cd7 ct7), sl7⟩)
    (c7 : PySem.W.codeIn K cd7 "Web.__init__" = true)
    (k7 : PySem.W.keepIn K (.ref f7) = true)
    {f8 : Addr}
    (a8 : PySem.W.nsIn K mainGlobals "_law_near" = some (some (.ref f8)))
    {od8 an8 : Option Addr} {sl8 : Array (Option Value)} {oc8 kV8 dc8 pm8 cd8 ct8 : Value}
    (l8 : K.lookup f8 = some ⟨oc8, od8, .func (PySem.W.fnOf "_law_near" "_law_near" (defArgs s_u_law_near) (defBody s_u_law_near) (defScope s_u_law_near) .none kV8 dc8 pm8 an8 cd8 ct8), sl8⟩)
    (c8 : PySem.W.codeIn K cd8 "_law_near" = true)
    (k8 : PySem.W.keepIn K (.ref f8) = true)
    {f9 : Addr}
    (a9 : PySem.W.nsIn K mainGlobals "_law_uneven" = some (some (.ref f9)))
    {od9 an9 : Option Addr} {sl9 : Array (Option Value)} {oc9 kV9 dc9 pm9 cd9 ct9 : Value}
    (l9 : K.lookup f9 = some ⟨oc9, od9, .func (PySem.W.fnOf "_law_uneven" "_law_uneven" (defArgs s_u_law_uneven) (defBody s_u_law_uneven) (defScope s_u_law_uneven) .none kV9 dc9 pm9 an9 cd9 ct9), sl9⟩)
    (c9 : PySem.W.codeIn K cd9 "_law_uneven" = true)
    (k9 : PySem.W.keepIn K (.ref f9) = true)
    {f10 : Addr}
    (a10 : PySem.W.nsIn K mainGlobals "is_web" = some (some (.ref f10)))
    {od10 an10 : Option Addr} {sl10 : Array (Option Value)} {oc10 kV10 dc10 pm10 cd10 ct10 : Value}
    (l10 : K.lookup f10 = some ⟨oc10, od10, .func (PySem.W.fnOf "is_web" "is_web" (defArgs s_is_web) (defBody s_is_web) (defScope s_is_web) .none kV10 dc10 pm10 an10 cd10 ct10), sl10⟩)
    (c10 : PySem.W.codeIn K cd10 "is_web" = true)
    (k10 : PySem.W.keepIn K (.ref f10) = true)
    {f11 : Addr}
    (a11 : PySem.W.nsIn K mainGlobals "need_web" = some (some (.ref f11)))
    {od11 an11 : Option Addr} {sl11 : Array (Option Value)} {oc11 kV11 dc11 pm11 cd11 ct11 : Value}
    (l11 : K.lookup f11 = some ⟨oc11, od11, .func (PySem.W.fnOf "need_web" "need_web" (defArgs s_need_web) (defBody s_need_web) (defScope s_need_web) .none kV11 dc11 pm11 an11 cd11 ct11), sl11⟩)
    (c11 : PySem.W.codeIn K cd11 "need_web" = true)
    (k11 : PySem.W.keepIn K (.ref f11) = true)
    {f12 : Addr}
    (a12 : PySem.W.nsIn K mainGlobals "degrees_in" = some (some (.ref f12)))
    {od12 an12 : Option Addr} {sl12 : Array (Option Value)} {oc12 kV12 dc12 pm12 cd12 ct12 : Value}
    (l12 : K.lookup f12 = some ⟨oc12, od12, .func (PySem.W.fnOf "degrees_in" "degrees_in" (defArgs s_degrees_in) (defBody s_degrees_in) (defScope s_degrees_in) .none kV12 dc12 pm12 an12 cd12 ct12), sl12⟩)
    (c12 : PySem.W.codeIn K cd12 "degrees_in" = true)
    (k12 : PySem.W.keepIn K (.ref f12) = true)
    {f13 : Addr}
    (a13 : PySem.W.nsIn K mainGlobals "tied_in" = some (some (.ref f13)))
    {od13 an13 : Option Addr} {sl13 : Array (Option Value)} {oc13 kV13 dc13 pm13 cd13 ct13 : Value}
    (l13 : K.lookup f13 = some ⟨oc13, od13, .func (PySem.W.fnOf "tied_in" "tied_in" (defArgs s_tied_in) (defBody s_tied_in) (defScope s_tied_in) .none kV13 dc13 pm13 an13 cd13 ct13), sl13⟩)
    (c13 : PySem.W.codeIn K cd13 "tied_in" = true)
    (k13 : PySem.W.keepIn K (.ref f13) = true)
    {f14 : Addr}
    (a14 : PySem.W.nsIn K mainGlobals "pairs_in" = some (some (.ref f14)))
    {od14 an14 : Option Addr} {sl14 : Array (Option Value)} {oc14 kV14 dc14 pm14 cd14 ct14 : Value}
    (l14 : K.lookup f14 = some ⟨oc14, od14, .func (PySem.W.fnOf "pairs_in" "pairs_in" (defArgs s_pairs_in) (defBody s_pairs_in) (defScope s_pairs_in) .none kV14 dc14 pm14 an14 cd14 ct14), sl14⟩)
    (c14 : PySem.W.codeIn K cd14 "pairs_in" = true)
    (k14 : PySem.W.keepIn K (.ref f14) = true)
    {f15 : Addr}
    (a15 : PySem.W.nsIn K mainGlobals "common_in" = some (some (.ref f15)))
    {od15 an15 : Option Addr} {sl15 : Array (Option Value)} {oc15 kV15 dc15 pm15 cd15 ct15 : Value}
    (l15 : K.lookup f15 = some ⟨oc15, od15, .func (PySem.W.fnOf "common_in" "common_in" (defArgs s_common_in) (defBody s_common_in) (defScope s_common_in) .none kV15 dc15 pm15 an15 cd15 ct15), sl15⟩)
    (c15 : PySem.W.codeIn K cd15 "common_in" = true)
    (k15 : PySem.W.keepIn K (.ref f15) = true)
    {f16 : Addr}
    (a16 : PySem.W.nsIn K mainGlobals "uneven_in" = some (some (.ref f16)))
    {od16 an16 : Option Addr} {sl16 : Array (Option Value)} {oc16 kV16 dc16 pm16 cd16 ct16 : Value}
    (l16 : K.lookup f16 = some ⟨oc16, od16, .func (PySem.W.fnOf "uneven_in" "uneven_in" (defArgs s_uneven_in) (defBody s_uneven_in) (defScope s_uneven_in) .none kV16 dc16 pm16 an16 cd16 ct16), sl16⟩)
    (c16 : PySem.W.codeIn K cd16 "uneven_in" = true)
    (k16 : PySem.W.keepIn K (.ref f16) = true)
    {f17 : Addr}
    (a17 : PySem.W.nsIn K mainGlobals "uneven" = some (some (.ref f17)))
    {od17 an17 : Option Addr} {sl17 : Array (Option Value)} {oc17 kV17 dc17 pm17 cd17 ct17 : Value}
    (l17 : K.lookup f17 = some ⟨oc17, od17, .func (PySem.W.fnOf "uneven" "uneven" (defArgs s_uneven) (defBody s_uneven) (defScope s_uneven) .none kV17 dc17 pm17 an17 cd17 ct17), sl17⟩)
    (c17 : PySem.W.codeIn K cd17 "uneven" = true)
    (k17 : PySem.W.keepIn K (.ref f17) = true)
    {f18 : Addr}
    (a18 : PySem.W.nsIn K mainGlobals "_law_draw" = some (some (.ref f18)))
    {od18 an18 : Option Addr} {sl18 : Array (Option Value)} {oc18 kV18 dc18 pm18 cd18 ct18 : Value}
    (l18 : K.lookup f18 = some ⟨oc18, od18, .func (PySem.W.fnOf "_law_draw" "_law_draw" (defArgs s_u_law_draw) (defBody s_u_law_draw) (defScope s_u_law_draw) .none kV18 dc18 pm18 an18 cd18 ct18), sl18⟩)
    (c18 : PySem.W.codeIn K cd18 "_law_draw" = true)
    (k18 : PySem.W.keepIn K (.ref f18) = true)
    {f19 : Addr}
    (a19 : PySem.W.nsIn K mainGlobals "_law_ties" = some (some (.ref f19)))
    {od19 an19 : Option Addr} {sl19 : Array (Option Value)} {oc19 kV19 dc19 pm19 cd19 ct19 : Value}
    (l19 : K.lookup f19 = some ⟨oc19, od19, .func (PySem.W.fnOf "_law_ties" "_law_ties" (defArgs s_u_law_ties) (defBody s_u_law_ties) (defScope s_u_law_ties) .none kV19 dc19 pm19 an19 cd19 ct19), sl19⟩)
    (c19 : PySem.W.codeIn K cd19 "_law_ties" = true)
    (k19 : PySem.W.keepIn K (.ref f19) = true)
    {f20 : Addr}
    (a20 : PySem.W.nsIn K mainGlobals "_law_pick" = some (some (.ref f20)))
    {od20 an20 : Option Addr} {sl20 : Array (Option Value)} {oc20 kV20 dc20 pm20 cd20 ct20 : Value}
    (l20 : K.lookup f20 = some ⟨oc20, od20, .func (PySem.W.fnOf "_law_pick" "_law_pick" (defArgs s_u_law_pick) (defBody s_u_law_pick) (defScope s_u_law_pick) .none kV20 dc20 pm20 an20 cd20 ct20), sl20⟩)
    (c20 : PySem.W.codeIn K cd20 "_law_pick" = true)
    (k20 : PySem.W.keepIn K (.ref f20) = true)
    {f21 : Addr}
    (a21 : PySem.W.nsIn K mainGlobals "_law_mixed" = some (some (.ref f21)))
    {od21 an21 : Option Addr} {sl21 : Array (Option Value)} {oc21 kV21 dc21 pm21 cd21 ct21 : Value}
    (l21 : K.lookup f21 = some ⟨oc21, od21, .func (PySem.W.fnOf "_law_mixed" "_law_mixed" (defArgs s_u_law_mixed) (defBody s_u_law_mixed) (defScope s_u_law_mixed) .none kV21 dc21 pm21 an21 cd21 ct21), sl21⟩)
    (c21 : PySem.W.codeIn K cd21 "_law_mixed" = true)
    (k21 : PySem.W.keepIn K (.ref f21) = true)
    {f22 : Addr}
    (a22 : PySem.W.nsIn K mainGlobals "numbers_of" = some (some (.ref f22)))
    {od22 an22 : Option Addr} {sl22 : Array (Option Value)} {oc22 kV22 dc22 pm22 cd22 ct22 : Value}
    (l22 : K.lookup f22 = some ⟨oc22, od22, .func (PySem.W.fnOf "numbers_of" "numbers_of" (defArgs s_numbers_of) (defBody s_numbers_of) (defScope s_numbers_of) .none kV22 dc22 pm22 an22 cd22 ct22), sl22⟩)
    (c22 : PySem.W.codeIn K cd22 "numbers_of" = true)
    (k22 : PySem.W.keepIn K (.ref f22) = true)
    {f23 : Addr}
    (a23 : PySem.W.nsIn K mainGlobals "all_pairs" = some (some (.ref f23)))
    {od23 an23 : Option Addr} {sl23 : Array (Option Value)} {oc23 kV23 dc23 pm23 cd23 ct23 : Value}
    (l23 : K.lookup f23 = some ⟨oc23, od23, .func (PySem.W.fnOf "all_pairs" "all_pairs" (defArgs s_all_pairs) (defBody s_all_pairs) (defScope s_all_pairs) .none kV23 dc23 pm23 an23 cd23 ct23), sl23⟩)
    (c23 : PySem.W.codeIn K cd23 "all_pairs" = true)
    (k23 : PySem.W.keepIn K (.ref f23) = true)
    {f24 : Addr}
    (a24 : PySem.W.nsIn K mainGlobals "complement_in" = some (some (.ref f24)))
    {od24 an24 : Option Addr} {sl24 : Array (Option Value)} {oc24 kV24 dc24 pm24 cd24 ct24 : Value}
    (l24 : K.lookup f24 = some ⟨oc24, od24, .func (PySem.W.fnOf "complement_in" "complement_in" (defArgs s_complement_in) (defBody s_complement_in) (defScope s_complement_in) .none kV24 dc24 pm24 an24 cd24 ct24), sl24⟩)
    (c24 : PySem.W.codeIn K cd24 "complement_in" = true)
    (k24 : PySem.W.keepIn K (.ref f24) = true)
    {f25 : Addr}
    (a25 : PySem.W.nsIn K mainGlobals "complement" = some (some (.ref f25)))
    {od25 an25 : Option Addr} {sl25 : Array (Option Value)} {oc25 kV25 dc25 pm25 cd25 ct25 : Value}
    (l25 : K.lookup f25 = some ⟨oc25, od25, .func (PySem.W.fnOf "complement" "complement" (defArgs s_complement) (defBody s_complement) (defScope s_complement) .none kV25 dc25 pm25 an25 cd25 ct25), sl25⟩)
    (c25 : PySem.W.codeIn K cd25 "complement" = true)
    (k25 : PySem.W.keepIn K (.ref f25) = true)
    {f26 : Addr}
    (a26 : PySem.W.nsIn K mainGlobals "need_number" = some (some (.ref f26)))
    {od26 an26 : Option Addr} {sl26 : Array (Option Value)} {oc26 kV26 dc26 pm26 cd26 ct26 : Value}
    (l26 : K.lookup f26 = some ⟨oc26, od26, .func (PySem.W.fnOf "need_number" "need_number" (defArgs s_need_number) (defBody s_need_number) (defScope s_need_number) .none kV26 dc26 pm26 an26 cd26 ct26), sl26⟩)
    (c26 : PySem.W.codeIn K cd26 "need_number" = true)
    (k26 : PySem.W.keepIn K (.ref f26) = true)
    {f27 : Addr}
    (a27 : PySem.W.nsIn K mainGlobals "web_by" = some (some (.ref f27)))
    {od27 an27 : Option Addr} {sl27 : Array (Option Value)} {oc27 kV27 dc27 pm27 cd27 ct27 : Value}
    (l27 : K.lookup f27 = some ⟨oc27, od27, .func (PySem.W.fnOf "web_by" "web_by" (defArgs s_web_by) (defBody s_web_by) (defScope s_web_by) .none kV27 dc27 pm27 an27 cd27 ct27), sl27⟩)
    (c27 : PySem.W.codeIn K cd27 "web_by" = true)
    (k27 : PySem.W.keepIn K (.ref f27) = true)
    {f28 : Addr}
    (a28 : PySem.W.nsIn K mainGlobals "ring_web" = some (some (.ref f28)))
    {od28 an28 : Option Addr} {sl28 : Array (Option Value)} {oc28 kV28 dc28 pm28 cd28 ct28 : Value}
    (l28 : K.lookup f28 = some ⟨oc28, od28, .func (PySem.W.fnOf "ring_web" "ring_web" (defArgs s_ring_web) (defBody s_ring_web) (defScope s_ring_web) .none kV28 dc28 pm28 an28 cd28 ct28), sl28⟩)
    (c28 : PySem.W.codeIn K cd28 "ring_web" = true)
    (k28 : PySem.W.keepIn K (.ref f28) = true)
    {f29 : Addr}
    (a29 : PySem.W.nsIn K mainGlobals "pairs_web" = some (some (.ref f29)))
    {od29 an29 : Option Addr} {sl29 : Array (Option Value)} {oc29 kV29 dc29 pm29 cd29 ct29 : Value}
    (l29 : K.lookup f29 = some ⟨oc29, od29, .func (PySem.W.fnOf "pairs_web" "pairs_web" (defArgs s_pairs_web) (defBody s_pairs_web) (defScope s_pairs_web) .none kV29 dc29 pm29 an29 cd29 ct29), sl29⟩)
    (c29 : PySem.W.codeIn K cd29 "pairs_web" = true)
    (k29 : PySem.W.keepIn K (.ref f29) = true)
    {f30 : Addr}
    (a30 : PySem.W.nsIn K mainGlobals "_law_point_web" = some (some (.ref f30)))
    {od30 an30 : Option Addr} {sl30 : Array (Option Value)} {oc30 kV30 dc30 pm30 cd30 ct30 : Value}
    (l30 : K.lookup f30 = some ⟨oc30, od30, .func (PySem.W.fnOf "_law_point_web" "_law_point_web" (defArgs s_u_law_point_web) (defBody s_u_law_point_web) (defScope s_u_law_point_web) .none kV30 dc30 pm30 an30 cd30 ct30), sl30⟩)
    (c30 : PySem.W.codeIn K cd30 "_law_point_web" = true)
    (k30 : PySem.W.keepIn K (.ref f30) = true)
    {f31 : Addr}
    (a31 : PySem.W.nsIn K mainGlobals "_law_is" = some (some (.ref f31)))
    {od31 an31 : Option Addr} {sl31 : Array (Option Value)} {oc31 kV31 dc31 pm31 cd31 ct31 : Value}
    (l31 : K.lookup f31 = some ⟨oc31, od31, .func (PySem.W.fnOf "_law_is" "_law_is" (defArgs s_u_law_is) (defBody s_u_law_is) (defScope s_u_law_is) .none kV31 dc31 pm31 an31 cd31 ct31), sl31⟩)
    (c31 : PySem.W.codeIn K cd31 "_law_is" = true)
    (k31 : PySem.W.keepIn K (.ref f31) = true)
    {f32 : Addr}
    (a32 : PySem.W.nsIn K mainGlobals "counts_in" = some (some (.ref f32)))
    {od32 an32 : Option Addr} {sl32 : Array (Option Value)} {oc32 kV32 dc32 pm32 cd32 ct32 : Value}
    (l32 : K.lookup f32 = some ⟨oc32, od32, .func (PySem.W.fnOf "counts_in" "counts_in" (defArgs s_counts_in) (defBody s_counts_in) (defScope s_counts_in) .none kV32 dc32 pm32 an32 cd32 ct32), sl32⟩)
    (c32 : PySem.W.codeIn K cd32 "counts_in" = true)
    (k32 : PySem.W.keepIn K (.ref f32) = true)
    {f33 : Addr}
    (a33 : PySem.W.nsIn K mainGlobals "common_counts" = some (some (.ref f33)))
    {od33 an33 : Option Addr} {sl33 : Array (Option Value)} {oc33 kV33 dc33 pm33 cd33 ct33 : Value}
    (l33 : K.lookup f33 = some ⟨oc33, od33, .func (PySem.W.fnOf "common_counts" "common_counts" (defArgs s_common_counts) (defBody s_common_counts) (defScope s_common_counts) .none kV33 dc33 pm33 an33 cd33 ct33), sl33⟩)
    (c33 : PySem.W.codeIn K cd33 "common_counts" = true)
    (k33 : PySem.W.keepIn K (.ref f33) = true)
    {f34 : Addr}
    (a34 : PySem.W.nsIn K mainGlobals "need_place" = some (some (.ref f34)))
    {od34 an34 : Option Addr} {sl34 : Array (Option Value)} {oc34 kV34 dc34 pm34 cd34 ct34 : Value}
    (l34 : K.lookup f34 = some ⟨oc34, od34, .func (PySem.W.fnOf "need_place" "need_place" (defArgs s_need_place) (defBody s_need_place) (defScope s_need_place) .none kV34 dc34 pm34 an34 cd34 ct34), sl34⟩)
    (c34 : PySem.W.codeIn K cd34 "need_place" = true)
    (k34 : PySem.W.keepIn K (.ref f34) = true)
    {f35 : Addr}
    (a35 : PySem.W.nsIn K mainGlobals "common_near" = some (some (.ref f35)))
    {od35 an35 : Option Addr} {sl35 : Array (Option Value)} {oc35 kV35 dc35 pm35 cd35 ct35 : Value}
    (l35 : K.lookup f35 = some ⟨oc35, od35, .func (PySem.W.fnOf "common_near" "common_near" (defArgs s_common_near) (defBody s_common_near) (defScope s_common_near) .none kV35 dc35 pm35 an35 cd35 ct35), sl35⟩)
    (c35 : PySem.W.codeIn K cd35 "common_near" = true)
    (k35 : PySem.W.keepIn K (.ref f35) = true)
    {f36 : Addr}
    (a36 : PySem.W.nsIn K mainGlobals "is_even" = some (some (.ref f36)))
    {od36 an36 : Option Addr} {sl36 : Array (Option Value)} {oc36 kV36 dc36 pm36 cd36 ct36 : Value}
    (l36 : K.lookup f36 = some ⟨oc36, od36, .func (PySem.W.fnOf "is_even" "is_even" (defArgs s_is_even) (defBody s_is_even) (defScope s_is_even) .none kV36 dc36 pm36 an36 cd36 ct36), sl36⟩)
    (c36 : PySem.W.codeIn K cd36 "is_even" = true)
    (k36 : PySem.W.keepIn K (.ref f36) = true)
    {f37 : Addr}
    (a37 : PySem.W.nsIn K mainGlobals "are_numbers" = some (some (.ref f37)))
    {od37 an37 : Option Addr} {sl37 : Array (Option Value)} {oc37 kV37 dc37 pm37 cd37 ct37 : Value}
    (l37 : K.lookup f37 = some ⟨oc37, od37, .func (PySem.W.fnOf "are_numbers" "are_numbers" (defArgs s_are_numbers) (defBody s_are_numbers) (defScope s_are_numbers) .none kV37 dc37 pm37 an37 cd37 ct37), sl37⟩)
    (c37 : PySem.W.codeIn K cd37 "are_numbers" = true)
    (k37 : PySem.W.keepIn K (.ref f37) = true)
    {f38 : Addr}
    (a38 : PySem.W.nsIn K mainGlobals "need_numbers" = some (some (.ref f38)))
    {od38 an38 : Option Addr} {sl38 : Array (Option Value)} {oc38 kV38 dc38 pm38 cd38 ct38 : Value}
    (l38 : K.lookup f38 = some ⟨oc38, od38, .func (PySem.W.fnOf "need_numbers" "need_numbers" (defArgs s_need_numbers) (defBody s_need_numbers) (defScope s_need_numbers) .none kV38 dc38 pm38 an38 cd38 ct38), sl38⟩)
    (c38 : PySem.W.codeIn K cd38 "need_numbers" = true)
    (k38 : PySem.W.keepIn K (.ref f38) = true)
    {f39 : Addr}
    (a39 : PySem.W.nsIn K mainGlobals "turned_in" = some (some (.ref f39)))
    {od39 an39 : Option Addr} {sl39 : Array (Option Value)} {oc39 kV39 dc39 pm39 cd39 ct39 : Value}
    (l39 : K.lookup f39 = some ⟨oc39, od39, .func (PySem.W.fnOf "turned_in" "turned_in" (defArgs s_turned_in) (defBody s_turned_in) (defScope s_turned_in) .none kV39 dc39 pm39 an39 cd39 ct39), sl39⟩)
    (c39 : PySem.W.codeIn K cd39 "turned_in" = true)
    (k39 : PySem.W.keepIn K (.ref f39) = true)
    {f40 : Addr}
    (a40 : PySem.W.nsIn K mainGlobals "turned_numbers" = some (some (.ref f40)))
    {od40 an40 : Option Addr} {sl40 : Array (Option Value)} {oc40 kV40 dc40 pm40 cd40 ct40 : Value}
    (l40 : K.lookup f40 = some ⟨oc40, od40, .func (PySem.W.fnOf "turned_numbers" "turned_numbers" (defArgs s_turned_numbers) (defBody s_turned_numbers) (defScope s_turned_numbers) .none kV40 dc40 pm40 an40 cd40 ct40), sl40⟩)
    (c40 : PySem.W.codeIn K cd40 "turned_numbers" = true)
    (k40 : PySem.W.keepIn K (.ref f40) = true)
    {f41 : Addr}
    (a41 : PySem.W.nsIn K mainGlobals "law" = some (some (.ref f41)))
    {od41 an41 : Option Addr} {sl41 : Array (Option Value)} {oc41 kV41 dc41 pm41 cd41 ct41 : Value}
    (l41 : K.lookup f41 = some ⟨oc41, od41, .func (PySem.W.fnOf "law" "law" (defArgs s_law) (defBody s_law) (defScope s_law) .none kV41 dc41 pm41 an41 cd41 ct41), sl41⟩)
    (c41 : PySem.W.codeIn K cd41 "law" = true)
    (k41 : PySem.W.keepIn K (.ref f41) = true)
    (z_int : PySem.W.nsIn K mainGlobals "int" = some none)
    (z_list : PySem.W.nsIn K mainGlobals "list" = some none)
    (z_range : PySem.W.nsIn K mainGlobals "range" = some none)
    (z_sorted : PySem.W.nsIn K mainGlobals "sorted" = some none)
    (z_tuple : PySem.W.nsIn K mainGlobals "tuple" = some none)
    (z_isinstance : PySem.W.nsIn K mainGlobals "isinstance" = some none)
    (z_bool : PySem.W.nsIn K mainGlobals "bool" = some none)
    (z_len : PySem.W.nsIn K mainGlobals "len" = some none)
    (z_all : PySem.W.nsIn K mainGlobals "all" = some none)
    (z_zip : PySem.W.nsIn K mainGlobals "zip" = some none)
    (z_enumerate : PySem.W.nsIn K mainGlobals "enumerate" = some none)
    (z_max : PySem.W.nsIn K mainGlobals "max" = some none)
    (z_min : PySem.W.nsIn K mainGlobals "min" = some none)
    (z_repr : PySem.W.nsIn K mainGlobals "repr" = some none) (hfa : mg "law" = some (.ref fa))
    : ∃ (fd : FuncData) (cl : Nat → Addr), (∀ (s : Shared) (u : Value), BindsTo s fd ⟨[u], []⟩ [("script", u)]) ∧ ∀ base : Heap, K.In base → base.Ns mainGlobals mg → FnG P w K mg base 10 fa fd ["script"] (spP K cl 1 d_law) := by
  have ef := hfa.symm.trans (PySem.W.mg_of X G a41)
  cases ef
  refine ⟨PySem.W.fnOf "law" "law" (defArgs s_law) (defBody s_law) (defScope s_law) .none kV41 dc41 pm41 an41 cd41 ct41, fun _ => 0, fun s v => .of_eq rfl, fun base _ _ => ?_⟩
  have y_int := PySem.W.mg_none_of X G z_int
  have y_list := PySem.W.mg_none_of X G z_list
  have y_range := PySem.W.mg_none_of X G z_range
  have y_sorted := PySem.W.mg_none_of X G z_sorted
  have y_tuple := PySem.W.mg_none_of X G z_tuple
  have y_isinstance := PySem.W.mg_none_of X G z_isinstance
  have y_bool := PySem.W.mg_none_of X G z_bool
  have y_len := PySem.W.mg_none_of X G z_len
  have y_all := PySem.W.mg_none_of X G z_all
  have y_zip := PySem.W.mg_none_of X G z_zip
  have y_enumerate := PySem.W.mg_none_of X G z_enumerate
  have y_max := PySem.W.mg_none_of X G z_max
  have y_min := PySem.W.mg_none_of X G z_min
  have y_repr := PySem.W.mg_none_of X G z_repr
  have FE43 := fun_mk (st := s_E_BadWeb) l43 c43 k43
  have bE43 := FE43.binds (ps := ["self", "web"]) fun _ _ _ _ _ _ us hl => match us, hl with | [_, _], _ => rfl
  have E_BadWeb : Exc P w K mg base "BadWeb" ["web"] := exc1 (PySem.W.mg_of X G n_BadWeb) n_BadWeb ⟨⟨_, _, _, _, _, _, _, _, _, _, _, _, _, _, _, x_BadWeb, rfl⟩, sa_BadWeb, eC_BadWeb, tC_BadWeb, kC_BadWeb⟩ i_BadWeb ti_BadWeb FE43 sc_E_BadWeb rfl no_BadWeb_web bE43 rfl rfl (by decide) (by decide) (fun _ => rfl)
  have FE45 := fun_mk (st := s_E_NotKept) l45 c45 k45
  have bE45 := FE45.binds (ps := ["self", "promise", "witness"]) fun _ _ _ _ _ _ us hl => match us, hl with | [_, _, _], _ => rfl
  have E_NotKept : Exc P w K mg base "NotKept" ["promise", "witness"] := exc2 (PySem.W.mg_of X G n_NotKept) n_NotKept ⟨⟨_, _, _, _, _, _, _, _, _, _, _, _, _, _, _, x_NotKept, rfl⟩, sa_NotKept, eC_NotKept, tC_NotKept, kC_NotKept⟩ i_NotKept ti_NotKept FE45 sc_E_NotKept rfl no_NotKept_promise no_NotKept_witness bE45 rfl rfl rfl (by decide) (by decide) (by decide) (by decide) (fun _ => rfl) (fun _ => rfl)
  have FE42 := fun_mk (st := s_E_BadNumber) l42 c42 k42
  have bE42 := FE42.binds (ps := ["self", "what", "number"]) fun _ _ _ _ _ _ us hl => match us, hl with | [_, _, _], _ => rfl
  have E_BadNumber : Exc P w K mg base "BadNumber" ["what", "number"] := exc2 (PySem.W.mg_of X G n_BadNumber) n_BadNumber ⟨⟨_, _, _, _, _, _, _, _, _, _, _, _, _, _, _, x_BadNumber, rfl⟩, sa_BadNumber, eC_BadNumber, tC_BadNumber, kC_BadNumber⟩ i_BadNumber ti_BadNumber FE42 sc_E_BadNumber rfl no_BadNumber_what no_BadNumber_number bE42 rfl rfl rfl (by decide) (by decide) (by decide) (by decide) (fun _ => rfl) (fun _ => rfl)
  have FE44 := fun_mk (st := s_E_BadRow) l44 c44 k44
  have bE44 := FE44.binds (ps := ["self", "row"]) fun _ _ _ _ _ _ us hl => match us, hl with | [_, _], _ => rfl
  have E_BadRow : Exc P w K mg base "BadRow" ["row"] := exc1 (PySem.W.mg_of X G n_BadRow) n_BadRow ⟨⟨_, _, _, _, _, _, _, _, _, _, _, _, _, _, _, x_BadRow, rfl⟩, sa_BadRow, eC_BadRow, tC_BadRow, kC_BadRow⟩ i_BadRow ti_BadRow FE44 sc_E_BadRow rfl no_BadRow_row bE44 rfl rfl (by decide) (by decide) (fun _ => rfl)
  have O_Web : Ocl K mg "Web" ["places", "ties", "near"] := Ocl.mk' (PySem.W.mg_of X G n_Web) ⟨n_Web, ⟨pg_Web, hd_Web, po_Web, sa_Web⟩, hc_Web, gcO, tcO, mc_Web, kit_self, (by intro n hn; simp only [List.mem_cons, List.not_mem_nil, or_false] at hn; rcases hn with rfl | rfl | rfl | rfl | rfl | rfl | rfl <;> exact kit_of ic_Web tC_Web (by assumption))⟩ (by intro n hn; simp only [List.mem_cons, List.not_mem_nil, or_false] at hn; rcases hn with rfl | rfl | rfl <;> assumption)
  have F0 := fun_mk (st := s_u_law_pen) l0 c0 k0
  have b0 := F0.binds (ps := ["script"]) fun _ _ _ _ _ _ us hl => match us, hl with | [_], _ => rfl
  have D0 : Def P w K mg base 1 "_law_pen" ["script"] (spP K (fun _ => 0) 1 d_u_law_pen) := ⟨_, _, PySem.W.mg_of X G a0, k0, b0, fn_u_law_pen F0 y_int y_list⟩
  have F1 := fun_mk (st := s_near_lots) l1 c1 k1
  have b1 := F1.binds (ps := ["places", "ties"]) fun _ _ _ _ _ _ us hl => match us, hl with | [_, _], _ => rfl
  have D1 : Def P w K mg base 1 "near_lots" ["places", "ties"] (spP K (fun _ => 0) 2 d_near_lots) := ⟨_, _, PySem.W.mg_of X G a1, k1, b1, fn_near_lots F1 y_range y_sorted y_tuple⟩
  have F2 := fun_mk (st := s_is_whole) l2 c2 k2
  have b2 := F2.binds (ps := ["value"]) fun _ _ _ _ _ _ us hl => match us, hl with | [_], _ => rfl
  have D2 : Def P w K mg base 1 "is_whole" ["value"] (spP K (fun _ => 0) 1 d_is_whole) := ⟨_, _, PySem.W.mg_of X G a2, k2, b2, fn_is_whole F2 y_isinstance y_int y_bool⟩
  have F3 := fun_mk (st := s_is_count) l3 c3 k3
  have b3 := F3.binds (ps := ["value"]) fun _ _ _ _ _ _ us hl => match us, hl with | [_], _ => rfl
  have D3 : Def P w K mg base 2 "is_count" ["value"] (spP K (fun _ => 0) 1 d_is_count) := ⟨_, _, PySem.W.mg_of X G a3, k3, b3, fn_is_count F3 D2⟩
  have F4 := fun_mk (st := s_is_place_of) l4 c4 k4
  have b4 := F4.binds (ps := ["places", "value"]) fun _ _ _ _ _ _ us hl => match us, hl with | [_, _], _ => rfl
  have D4 : Def P w K mg base 3 "is_place_of" ["places", "value"] (spP K (fun _ => 0) 2 d_is_place_of) := ⟨_, _, PySem.W.mg_of X G a4, k4, b4, fn_is_place_of F4 D3⟩
  have F5 := fun_mk (st := s_is_tie) l5 c5 k5
  have b5 := F5.binds (ps := ["places", "value"]) fun _ _ _ _ _ _ us hl => match us, hl with | [_, _], _ => rfl
  have D5 : Def P w K mg base 4 "is_tie" ["places", "value"] (spP K (fun _ => 0) 2 d_is_tie) := ⟨_, _, PySem.W.mg_of X G a5, k5, b5, fn_is_tie F5 y_isinstance y_tuple y_len y_all D4⟩
  have F6 := fun_mk (st := s_are_ties) l6 c6 k6
  have b6 := F6.binds (ps := ["places", "ties"]) fun _ _ _ _ _ _ us hl => match us, hl with | [_, _], _ => rfl
  have D6 : Def P w K mg base 5 "are_ties" ["places", "ties"] (spP K (fun _ => 0) 2 d_are_ties) := ⟨_, _, PySem.W.mg_of X G a6, k6, b6, fn_are_ties F6 y_isinstance y_tuple y_all y_zip D3 D5⟩
  have F7 := fun_mk (st := s_Web) l7 c7 k7
  have b7 := F7.binds (ps := ["self", "places", "ties"]) fun _ _ _ _ _ _ us hl => match us, hl with | [_, _, _], _ => rfl
  have D7 : MkD P w K (fun _ => 0) mg base 6 "Web" ["self", "places", "ties"] 2 d_Web := ⟨_, _, _, PySem.W.mg_of X G n_Web, ⟨mk_Web, i_Web, if_Web, kC_Web⟩, b7, fn_Web F7 n_Web ⟨pg_Web, hd_Web, po_Web, sa_Web⟩ (by intro n hn; simp only [List.mem_cons, List.not_mem_nil, or_false] at hn; rcases hn with rfl | rfl | rfl <;> assumption) E_BadWeb D1 D6⟩
  have F8 := fun_mk (st := s_u_law_near) l8 c8 k8
  have b8 := F8.binds (ps := ["n", "ties"]) fun _ _ _ _ _ _ us hl => match us, hl with | [_, _], _ => rfl
  have D8 : Def P w K mg base 1 "_law_near" ["n", "ties"] (spP K (fun _ => 0) 2 d_u_law_near) := ⟨_, _, PySem.W.mg_of X G a8, k8, b8, fn_u_law_near F8 y_range y_sorted⟩
  have F9 := fun_mk (st := s_u_law_uneven) l9 c9 k9
  have b9 := F9.binds (ps := ["n", "near"]) fun _ _ _ _ _ _ us hl => match us, hl with | [_, _], _ => rfl
  have D9 : Def P w K mg base 1 "_law_uneven" ["n", "near"] (spP K (fun _ => 0) 2 d_u_law_uneven) := ⟨_, _, PySem.W.mg_of X G a9, k9, b9, fn_u_law_uneven F9 y_len y_range⟩
  have F10 := fun_mk (st := s_is_web) l10 c10 k10
  have b10 := F10.binds (ps := ["value"]) fun _ _ _ _ _ _ us hl => match us, hl with | [_], _ => rfl
  have D10 : Def P w K mg base 1 "is_web" ["value"] (spP K (fun _ => 0) 1 d_is_web) := ⟨_, _, PySem.W.mg_of X G a10, k10, b10, fn_is_web F10 y_isinstance O_Web⟩
  have F11 := fun_mk (st := s_need_web) l11 c11 k11
  have b11 := F11.binds (ps := ["web"]) fun _ _ _ _ _ _ us hl => match us, hl with | [_], _ => rfl
  have D11 : Def P w K mg base 3 "need_web" ["web"] (spP K (fun _ => 0) 1 d_need_web) := ⟨_, _, PySem.W.mg_of X G a11, k11, b11, fn_need_web F11 E_BadWeb D10⟩
  have F12 := fun_mk (st := s_degrees_in) l12 c12 k12
  have b12 := F12.binds (ps := ["web"]) fun _ _ _ _ _ _ us hl => match us, hl with | [_], _ => rfl
  have D12 : Def P w K mg base 1 "degrees_in" ["web"] (spP K (fun _ => 0) 1 d_degrees_in) := ⟨_, _, PySem.W.mg_of X G a12, k12, b12, fn_degrees_in F12 y_len y_tuple O_Web⟩
  have F13 := fun_mk (st := s_tied_in) l13 c13 k13
  have b13 := F13.binds (ps := ["web", "p", "q"]) fun _ _ _ _ _ _ us hl => match us, hl with | [_, _, _], _ => rfl
  have D13 : Def P w K mg base 1 "tied_in" ["web", "p", "q"] (spP K (fun _ => 0) 3 d_tied_in) := ⟨_, _, PySem.W.mg_of X G a13, k13, b13, fn_tied_in F13 O_Web⟩
  have F14 := fun_mk (st := s_pairs_in) l14 c14 k14
  have b14 := F14.binds (ps := ["web", "is_tied"]) fun _ _ _ _ _ _ us hl => match us, hl with | [_, _], _ => rfl
  have D14 : Def P w K mg base 2 "pairs_in" ["web", "is_tied"] (spP K (fun _ => 0) 2 d_pairs_in) := ⟨_, _, PySem.W.mg_of X G a14, k14, b14, fn_pairs_in F14 y_range O_Web D13⟩
  have F15 := fun_mk (st := s_common_in) l15 c15 k15
  have b15 := F15.binds (ps := ["web", "p", "q"]) fun _ _ _ _ _ _ us hl => match us, hl with | [_, _, _], _ => rfl
  have D15 : Def P w K mg base 1 "common_in" ["web", "p", "q"] (spP K (fun _ => 0) 3 d_common_in) := ⟨_, _, PySem.W.mg_of X G a15, k15, b15, fn_common_in F15 y_tuple O_Web⟩
  have F16 := fun_mk (st := s_uneven_in) l16 c16 k16
  have b16 := F16.binds (ps := ["web"]) fun _ _ _ _ _ _ us hl => match us, hl with | [_], _ => rfl
  have D16 : Def P w K mg base 3 "uneven_in" ["web"] (spP K (fun _ => 0) 1 d_uneven_in) := ⟨_, _, PySem.W.mg_of X G a16, k16, b16, fn_uneven_in F16 y_enumerate y_len y_zip O_Web D12 D14 D15⟩
  have F17 := fun_mk (st := s_uneven) l17 c17 k17
  have b17 := F17.binds (ps := ["web"]) fun _ _ _ _ _ _ us hl => match us, hl with | [_], _ => rfl
  have D17 : Def P w K mg base 4 "uneven" ["web"] (spP K (fun _ => 0) 1 d_uneven) := ⟨_, _, PySem.W.mg_of X G a17, k17, b17, fn_uneven F17 D11 D16⟩
  have F18 := fun_mk (st := s_u_law_draw) l18 c18 k18
  have b18 := F18.binds (ps := ["pen", "many"]) fun _ _ _ _ _ _ us hl => match us, hl with | [_, _], _ => rfl
  have D18 : Def P w K mg base 1 "_law_draw" ["pen", "many"] (spP K (fun _ => 0) 2 d_u_law_draw) := ⟨_, _, PySem.W.mg_of X G a18, k18, b18, fn_u_law_draw F18 y_len y_int⟩
  have F19 := fun_mk (st := s_u_law_ties) l19 c19 k19
  have b19 := F19.binds (ps := ["pen", "n"]) fun _ _ _ _ _ _ us hl => match us, hl with | [_, _], _ => rfl
  have D19 : Def P w K mg base 2 "_law_ties" ["pen", "n"] (spP K (fun _ => 0) 2 d_u_law_ties) := ⟨_, _, PySem.W.mg_of X G a19, k19, b19, fn_u_law_ties F19 y_range y_tuple D18⟩
  have F20 := fun_mk (st := s_u_law_pick) l20 c20 k20
  have b20 := F20.binds (ps := ["pen", "some"]) fun _ _ _ _ _ _ us hl => match us, hl with | [_, _], _ => rfl
  have D20 : Def P w K mg base 2 "_law_pick" ["pen", "some"] (spP K (fun _ => 0) 2 d_u_law_pick) := ⟨_, _, PySem.W.mg_of X G a20, k20, b20, fn_u_law_pick F20 y_len D18⟩
  have F21 := fun_mk (st := s_u_law_mixed) l21 c21 k21
  have b21 := F21.binds (ps := ["pen", "some"]) fun _ _ _ _ _ _ us hl => match us, hl with | [_, _], _ => rfl
  have D21 : Def P w K mg base 2 "_law_mixed" ["pen", "some"] (spL K (fun _ => 0) 2 d_u_law_mixed) := ⟨_, _, PySem.W.mg_of X G a21, k21, b21, fn_u_law_mixed F21 y_list y_len y_range D18⟩
  have F22 := fun_mk (st := s_numbers_of) l22 c22 k22
  have b22 := F22.binds (ps := ["web"]) fun _ _ _ _ _ _ us hl => match us, hl with | [_], _ => rfl
  have D22 : Def P w K mg base 4 "numbers_of" ["web"] (spP K (fun _ => 0) 1 d_numbers_of) := ⟨_, _, PySem.W.mg_of X G a22, k22, b22, fn_numbers_of F22 y_len O_Web E_NotKept D11 D16 D14 D15⟩
  have F23 := fun_mk (st := s_all_pairs) l23 c23 k23
  have b23 := F23.binds (ps := ["places"]) fun _ _ _ _ _ _ us hl => match us, hl with | [_], _ => rfl
  have D23 : Def P w K mg base 1 "all_pairs" ["places"] (spP K (fun _ => 0) 1 d_all_pairs) := ⟨_, _, PySem.W.mg_of X G a23, k23, b23, fn_all_pairs F23 y_range⟩
  have F24 := fun_mk (st := s_complement_in) l24 c24 k24
  have b24 := F24.binds (ps := ["web"]) fun _ _ _ _ _ _ us hl => match us, hl with | [_], _ => rfl
  have D24 : Def P w K mg base 8 "complement_in" ["web"] (spP K (fun _ => 0) 1 d_complement_in) := ⟨_, _, PySem.W.mg_of X G a24, k24, b24, fn_complement_in F24 y_tuple O_Web D7 D23⟩
  have F25 := fun_mk (st := s_complement) l25 c25 k25
  have b25 := F25.binds (ps := ["web"]) fun _ _ _ _ _ _ us hl => match us, hl with | [_], _ => rfl
  have D25 : Def P w K mg base 9 "complement" ["web"] (spP K (fun _ => 0) 1 d_complement) := ⟨_, _, PySem.W.mg_of X G a25, k25, b25, fn_complement F25 D11 D24⟩
  have F26 := fun_mk (st := s_need_number) l26 c26 k26
  have b26 := F26.binds (ps := ["what", "number"]) fun _ _ _ _ _ _ us hl => match us, hl with | [_, _], _ => rfl
  have D26 : Def P w K mg base 3 "need_number" ["what", "number"] (spP K (fun _ => 0) 2 d_need_number) := ⟨_, _, PySem.W.mg_of X G a26, k26, b26, fn_need_number F26 E_BadNumber D3⟩
  have F27 := fun_mk (st := s_web_by) l27 c27 k27
  have b27 := F27.binds (ps := ["places", "pairs"]) fun _ _ _ _ _ _ us hl => match us, hl with | [_, _], _ => rfl
  have D27 : Def P w K mg base 8 "web_by" ["places", "pairs"] (spP K (fun _ => 0) 2 d_web_by) := ⟨_, _, PySem.W.mg_of X G a27, k27, b27, fn_web_by F27 y_max y_min y_sorted y_tuple D7⟩
  have F28 := fun_mk (st := s_ring_web) l28 c28 k28
  have b28 := F28.binds (ps := ["n"]) fun _ _ _ _ _ _ us hl => match us, hl with | [_], _ => rfl
  have D28 : Def P w K mg base 9 "ring_web" ["n"] (spP K (fun _ => 0) 1 d_ring_web) := ⟨_, _, PySem.W.mg_of X G a28, k28, b28, fn_ring_web F28 y_range E_BadNumber D26 D27⟩
  have F29 := fun_mk (st := s_pairs_web) l29 c29 k29
  have b29 := F29.binds (ps := ["n"]) fun _ _ _ _ _ _ us hl => match us, hl with | [_], _ => rfl
  have D29 : Def P w K mg base 8 "pairs_web" ["n"] (spP K (fun _ => 0) 1 d_pairs_web) := ⟨_, _, PySem.W.mg_of X G a29, k29, b29, fn_pairs_web F29 y_tuple D26 D7 D23⟩
  have F30 := fun_mk (st := s_u_law_point_web) l30 c30 k30
  have b30 := F30.binds (ps := ["a", "is_square"]) fun _ _ _ _ _ _ us hl => match us, hl with | [_, _], _ => rfl
  have D30 : Def P w K mg base 8 "_law_point_web" ["a", "is_square"] (spP K (fun _ => 0) 2 d_u_law_point_web) := ⟨_, _, PySem.W.mg_of X G a30, k30, b30, fn_u_law_point_web F30 y_range y_len y_tuple D7⟩
  have F31 := fun_mk (st := s_u_law_is) l31 c31 k31
  have b31 := F31.binds (ps := ["told", "due"]) fun _ _ _ _ _ _ us hl => match us, hl with | [_, _], _ => rfl
  have D31 : Def P w K mg base 1 "_law_is" ["told", "due"] (spP K (fun _ => 0) 2 d_u_law_is) := ⟨_, _, PySem.W.mg_of X G a31, k31, b31, fn_u_law_is F31 y_isinstance y_bool⟩
  have F32 := fun_mk (st := s_counts_in) l32 c32 k32
  have b32 := F32.binds (ps := ["web"]) fun _ _ _ _ _ _ us hl => match us, hl with | [_], _ => rfl
  have D32 : Def P w K mg base 2 "counts_in" ["web"] (spP K (fun _ => 0) 1 d_counts_in) := ⟨_, _, PySem.W.mg_of X G a32, k32, b32, fn_counts_in F32 y_list y_range y_len y_tuple O_Web D15⟩
  have F33 := fun_mk (st := s_common_counts) l33 c33 k33
  have b33 := F33.binds (ps := ["web"]) fun _ _ _ _ _ _ us hl => match us, hl with | [_], _ => rfl
  have D33 : Def P w K mg base 4 "common_counts" ["web"] (spP K (fun _ => 0) 1 d_common_counts) := ⟨_, _, PySem.W.mg_of X G a33, k33, b33, fn_common_counts F33 D11 D32⟩
  have F34 := fun_mk (st := s_need_place) l34 c34 k34
  have b34 := F34.binds (ps := ["web", "value"]) fun _ _ _ _ _ _ us hl => match us, hl with | [_, _], _ => rfl
  have D34 : Def P w K mg base 4 "need_place" ["web", "value"] (spP K (fun _ => 0) 2 d_need_place) := ⟨_, _, PySem.W.mg_of X G a34, k34, b34, fn_need_place F34 O_Web E_BadNumber D4⟩
  have F35 := fun_mk (st := s_common_near) l35 c35 k35
  have b35 := F35.binds (ps := ["web", "p", "q"]) fun _ _ _ _ _ _ us hl => match us, hl with | [_, _, _], _ => rfl
  have D35 : Def P w K mg base 5 "common_near" ["web", "p", "q"] (spP K (fun _ => 0) 3 d_common_near) := ⟨_, _, PySem.W.mg_of X G a35, k35, b35, fn_common_near F35 D11 D34 D15⟩
  have F36 := fun_mk (st := s_is_even) l36 c36 k36
  have b36 := F36.binds (ps := ["web"]) fun _ _ _ _ _ _ us hl => match us, hl with | [_], _ => rfl
  have D36 : Def P w K mg base 4 "is_even" ["web"] (spP K (fun _ => 0) 1 d_is_even) := ⟨_, _, PySem.W.mg_of X G a36, k36, b36, fn_is_even F36 D11 D16⟩
  have F37 := fun_mk (st := s_are_numbers) l37 c37 k37
  have b37 := F37.binds (ps := ["value"]) fun _ _ _ _ _ _ us hl => match us, hl with | [_], _ => rfl
  have D37 : Def P w K mg base 3 "are_numbers" ["value"] (spP K (fun _ => 0) 1 d_are_numbers) := ⟨_, _, PySem.W.mg_of X G a37, k37, b37, fn_are_numbers F37 y_isinstance y_tuple y_len y_all D3⟩
  have F38 := fun_mk (st := s_need_numbers) l38 c38 k38
  have b38 := F38.binds (ps := ["numbers"]) fun _ _ _ _ _ _ us hl => match us, hl with | [_], _ => rfl
  have D38 : Def P w K mg base 4 "need_numbers" ["numbers"] (spP K (fun _ => 0) 1 d_need_numbers) := ⟨_, _, PySem.W.mg_of X G a38, k38, b38, fn_need_numbers F38 E_BadRow D37⟩
  have F39 := fun_mk (st := s_turned_in) l39 c39 k39
  have b39 := F39.binds (ps := ["numbers"]) fun _ _ _ _ _ _ us hl => match us, hl with | [_], _ => rfl
  have D39 : Def P w K mg base 1 "turned_in" ["numbers"] (spP K (fun _ => 0) 1 d_turned_in) := ⟨_, _, PySem.W.mg_of X G a39, k39, b39, fn_turned_in F39 ⟩
  have F40 := fun_mk (st := s_turned_numbers) l40 c40 k40
  have b40 := F40.binds (ps := ["numbers"]) fun _ _ _ _ _ _ us hl => match us, hl with | [_], _ => rfl
  have D40 : Def P w K mg base 5 "turned_numbers" ["numbers"] (spP K (fun _ => 0) 1 d_turned_numbers) := ⟨_, _, PySem.W.mg_of X G a40, k40, b40, fn_turned_numbers F40 y_min E_NotKept D38 D39⟩
  have F41 := fun_mk (st := s_law) l41 c41 k41
  have b41 := F41.binds (ps := ["script"]) fun _ _ _ _ _ _ us hl => match us, hl with | [_], _ => rfl
  exact fn_law F41 y_range y_list y_max y_min y_sorted y_tuple y_repr y_len y_isinstance O_Web D0 D18 D7 D19 D30 D29 D28 D20 D21 D8 D9 D17 D31 D36 D33 D35 D22 D25 D40
end K25
theorem K25.law_true (ns : List Int) (hl : ns.length ≤ 63) : Y.LawTrue K25.d_law ns := by
  have e : K25.d_law = L25.d_law := rfl
  rw [e]
  exact L25.law_true ns hl
open PySem PySem.W PyProof.Rows in
set_option maxHeartbeats 0 in
theorem PySem.Challenge.cw_sixtylines_k25_whole_even_webs_holds : PySem.Challenge.rw_sixtylines_k25_whole_even_webs.Holds := by
  w_on; o_law; k_head; (case hw => w_witness2)
  k_fill
  refine Y.walkG (l := PySem.Challenge.rw_sixtylines_k25_whole_even_webs) (n := 63) (k := 10) (x := "script") (d := K25.d_law) rfl (by decide) rfl ⟨rfl, by decide, by decide⟩ (fun w h Y => PySem.W.kIn_of Y) K25.law_true ?F
  case F =>
    intro w mg fa h KX G hmg
    refine' K25.all_mk KX G ?n_BadNumber ?n_BadWeb ?n_BadRow ?n_NotKept ?eC_BadNumber ?tC_BadNumber ?x_BadNumber ?sa_BadNumber ?kC_BadNumber ?i_BadNumber ?ti_BadNumber ?l42 ?c42 ?k42 ?no_BadNumber_what ?no_BadNumber_number ?eC_BadWeb ?tC_BadWeb ?x_BadWeb ?sa_BadWeb ?kC_BadWeb ?i_BadWeb ?ti_BadWeb ?l43 ?c43 ?k43 ?no_BadWeb_web ?eC_BadRow ?tC_BadRow ?x_BadRow ?sa_BadRow ?kC_BadRow ?i_BadRow ?ti_BadRow ?l44 ?c44 ?k44 ?no_BadRow_row ?eC_NotKept ?tC_NotKept ?x_NotKept ?sa_NotKept ?kC_NotKept ?i_NotKept ?ti_NotKept ?l45 ?c45 ?k45 ?no_NotKept_promise ?no_NotKept_witness ?gcO ?tcO ?n_Web ?pg_Web ?hd_Web ?po_Web ?sa_Web ?hc_Web ?mc_Web ?ic_Web ?tC_Web ?ot_Web_NoneType ?ot_Web_bool ?ot_Web_int ?ot_Web_str ?ot_Web_tuple ?ot_Web_list ?ot_Web_dict ?no_Web_places ?no_Web_ties ?no_Web_near ?a0 ?l0 ?c0 ?k0 ?a1 ?l1 ?c1 ?k1 ?a2 ?l2 ?c2 ?k2 ?a3 ?l3 ?c3 ?k3 ?a4 ?l4 ?c4 ?k4 ?a5 ?l5 ?c5 ?k5 ?a6 ?l6 ?c6 ?k6 ?mk_Web ?i_Web ?if_Web ?kC_Web ?l7 ?c7 ?k7 ?a8 ?l8 ?c8 ?k8 ?a9 ?l9 ?c9 ?k9 ?a10 ?l10 ?c10 ?k10 ?a11 ?l11 ?c11 ?k11 ?a12 ?l12 ?c12 ?k12 ?a13 ?l13 ?c13 ?k13 ?a14 ?l14 ?c14 ?k14 ?a15 ?l15 ?c15 ?k15 ?a16 ?l16 ?c16 ?k16 ?a17 ?l17 ?c17 ?k17 ?a18 ?l18 ?c18 ?k18 ?a19 ?l19 ?c19 ?k19 ?a20 ?l20 ?c20 ?k20 ?a21 ?l21 ?c21 ?k21 ?a22 ?l22 ?c22 ?k22 ?a23 ?l23 ?c23 ?k23 ?a24 ?l24 ?c24 ?k24 ?a25 ?l25 ?c25 ?k25 ?a26 ?l26 ?c26 ?k26 ?a27 ?l27 ?c27 ?k27 ?a28 ?l28 ?c28 ?k28 ?a29 ?l29 ?c29 ?k29 ?a30 ?l30 ?c30 ?k30 ?a31 ?l31 ?c31 ?k31 ?a32 ?l32 ?c32 ?k32 ?a33 ?l33 ?c33 ?k33 ?a34 ?l34 ?c34 ?k34 ?a35 ?l35 ?c35 ?k35 ?a36 ?l36 ?c36 ?k36 ?a37 ?l37 ?c37 ?k37 ?a38 ?l38 ?c38 ?k38 ?a39 ?l39 ?c39 ?k39 ?a40 ?l40 ?c40 ?k40 ?a41 ?l41 ?c41 ?k41 ?z_int ?z_list ?z_range ?z_sorted ?z_tuple ?z_isinstance ?z_bool ?z_len ?z_all ?z_zip ?z_enumerate ?z_max ?z_min ?z_repr hmg
    (case n_BadNumber => k_is)
    (case n_BadWeb => k_is)
    (case n_BadRow => k_is)
    (case n_NotKept => k_is)
    (case eC_BadNumber => k_is)
    (case tC_BadNumber => k_is)
    (case x_BadNumber => k_is)
    (case sa_BadNumber => k_is)
    (case kC_BadNumber => k_is)
    (case i_BadNumber => k_is)
    (case ti_BadNumber => k_is)
    (case l42 => k_is)
    (case c42 => k_is)
    (case k42 => k_is)
    (case no_BadNumber_what => k_is)
    (case no_BadNumber_number => k_is)
    (case eC_BadWeb => k_is)
    (case tC_BadWeb => k_is)
    (case x_BadWeb => k_is)
    (case sa_BadWeb => k_is)
    (case kC_BadWeb => k_is)
    (case i_BadWeb => k_is)
    (case ti_BadWeb => k_is)
    (case l43 => k_is)
    (case c43 => k_is)
    (case k43 => k_is)
    (case no_BadWeb_web => k_is)
    (case eC_BadRow => k_is)
    (case tC_BadRow => k_is)
    (case x_BadRow => k_is)
    (case sa_BadRow => k_is)
    (case kC_BadRow => k_is)
    (case i_BadRow => k_is)
    (case ti_BadRow => k_is)
    (case l44 => k_is)
    (case c44 => k_is)
    (case k44 => k_is)
    (case no_BadRow_row => k_is)
    (case eC_NotKept => k_is)
    (case tC_NotKept => k_is)
    (case x_NotKept => k_is)
    (case sa_NotKept => k_is)
    (case kC_NotKept => k_is)
    (case i_NotKept => k_is)
    (case ti_NotKept => k_is)
    (case l45 => k_is)
    (case c45 => k_is)
    (case k45 => k_is)
    (case no_NotKept_promise => k_is)
    (case no_NotKept_witness => k_is)
    (case gcO => k_is)
    (case tcO => k_is)
    (case n_Web => k_is)
    (case pg_Web => k_is)
    (case hd_Web => k_is)
    (case po_Web => k_is)
    (case sa_Web => k_is)
    (case hc_Web => k_is)
    (case mc_Web => k_is)
    (case ic_Web => k_is)
    (case tC_Web => k_is)
    (case ot_Web_NoneType => k_is)
    (case ot_Web_bool => k_is)
    (case ot_Web_int => k_is)
    (case ot_Web_str => k_is)
    (case ot_Web_tuple => k_is)
    (case ot_Web_list => k_is)
    (case ot_Web_dict => k_is)
    (case no_Web_places => k_is)
    (case no_Web_ties => k_is)
    (case no_Web_near => k_is)
    (case a0 => k_is)
    (case l0 => k_is)
    (case c0 => k_is)
    (case k0 => k_is)
    (case a1 => k_is)
    (case l1 => k_is)
    (case c1 => k_is)
    (case k1 => k_is)
    (case a2 => k_is)
    (case l2 => k_is)
    (case c2 => k_is)
    (case k2 => k_is)
    (case a3 => k_is)
    (case l3 => k_is)
    (case c3 => k_is)
    (case k3 => k_is)
    (case a4 => k_is)
    (case l4 => k_is)
    (case c4 => k_is)
    (case k4 => k_is)
    (case a5 => k_is)
    (case l5 => k_is)
    (case c5 => k_is)
    (case k5 => k_is)
    (case a6 => k_is)
    (case l6 => k_is)
    (case c6 => k_is)
    (case k6 => k_is)
    (case mk_Web => k_is)
    (case i_Web => k_is)
    (case if_Web => k_is)
    (case kC_Web => k_is)
    (case l7 => k_is)
    (case c7 => k_is)
    (case k7 => k_is)
    (case a8 => k_is)
    (case l8 => k_is)
    (case c8 => k_is)
    (case k8 => k_is)
    (case a9 => k_is)
    (case l9 => k_is)
    (case c9 => k_is)
    (case k9 => k_is)
    (case a10 => k_is)
    (case l10 => k_is)
    (case c10 => k_is)
    (case k10 => k_is)
    (case a11 => k_is)
    (case l11 => k_is)
    (case c11 => k_is)
    (case k11 => k_is)
    (case a12 => k_is)
    (case l12 => k_is)
    (case c12 => k_is)
    (case k12 => k_is)
    (case a13 => k_is)
    (case l13 => k_is)
    (case c13 => k_is)
    (case k13 => k_is)
    (case a14 => k_is)
    (case l14 => k_is)
    (case c14 => k_is)
    (case k14 => k_is)
    (case a15 => k_is)
    (case l15 => k_is)
    (case c15 => k_is)
    (case k15 => k_is)
    (case a16 => k_is)
    (case l16 => k_is)
    (case c16 => k_is)
    (case k16 => k_is)
    (case a17 => k_is)
    (case l17 => k_is)
    (case c17 => k_is)
    (case k17 => k_is)
    (case a18 => k_is)
    (case l18 => k_is)
    (case c18 => k_is)
    (case k18 => k_is)
    (case a19 => k_is)
    (case l19 => k_is)
    (case c19 => k_is)
    (case k19 => k_is)
    (case a20 => k_is)
    (case l20 => k_is)
    (case c20 => k_is)
    (case k20 => k_is)
    (case a21 => k_is)
    (case l21 => k_is)
    (case c21 => k_is)
    (case k21 => k_is)
    (case a22 => k_is)
    (case l22 => k_is)
    (case c22 => k_is)
    (case k22 => k_is)
    (case a23 => k_is)
    (case l23 => k_is)
    (case c23 => k_is)
    (case k23 => k_is)
    (case a24 => k_is)
    (case l24 => k_is)
    (case c24 => k_is)
    (case k24 => k_is)
    (case a25 => k_is)
    (case l25 => k_is)
    (case c25 => k_is)
    (case k25 => k_is)
    (case a26 => k_is)
    (case l26 => k_is)
    (case c26 => k_is)
    (case k26 => k_is)
    (case a27 => k_is)
    (case l27 => k_is)
    (case c27 => k_is)
    (case k27 => k_is)
    (case a28 => k_is)
    (case l28 => k_is)
    (case c28 => k_is)
    (case k28 => k_is)
    (case a29 => k_is)
    (case l29 => k_is)
    (case c29 => k_is)
    (case k29 => k_is)
    (case a30 => k_is)
    (case l30 => k_is)
    (case c30 => k_is)
    (case k30 => k_is)
    (case a31 => k_is)
    (case l31 => k_is)
    (case c31 => k_is)
    (case k31 => k_is)
    (case a32 => k_is)
    (case l32 => k_is)
    (case c32 => k_is)
    (case k32 => k_is)
    (case a33 => k_is)
    (case l33 => k_is)
    (case c33 => k_is)
    (case k33 => k_is)
    (case a34 => k_is)
    (case l34 => k_is)
    (case c34 => k_is)
    (case k34 => k_is)
    (case a35 => k_is)
    (case l35 => k_is)
    (case c35 => k_is)
    (case k35 => k_is)
    (case a36 => k_is)
    (case l36 => k_is)
    (case c36 => k_is)
    (case k36 => k_is)
    (case a37 => k_is)
    (case l37 => k_is)
    (case c37 => k_is)
    (case k37 => k_is)
    (case a38 => k_is)
    (case l38 => k_is)
    (case c38 => k_is)
    (case k38 => k_is)
    (case a39 => k_is)
    (case l39 => k_is)
    (case c39 => k_is)
    (case k39 => k_is)
    (case a40 => k_is)
    (case l40 => k_is)
    (case c40 => k_is)
    (case k40 => k_is)
    (case a41 => k_is)
    (case l41 => k_is)
    (case c41 => k_is)
    (case k41 => k_is)
    (case z_int => k_is)
    (case z_list => k_is)
    (case z_range => k_is)
    (case z_sorted => k_is)
    (case z_tuple => k_is)
    (case z_isinstance => k_is)
    (case z_bool => k_is)
    (case z_len => k_is)
    (case z_all => k_is)
    (case z_zip => k_is)
    (case z_enumerate => k_is)
    (case z_max => k_is)
    (case z_min => k_is)
    (case z_repr => k_is)
end
