import PyProof.Rows.All
import Wide.All
import OpenK.AllK
import Wide.FinOn
import HandS.ForMost
import HandS.ExcInit
import HandS.Exc
import HandS.IsInst
import HandS.TupAny
import HandS.Style
import HandS.ExcOwn
import HandS.RaiseMore
import HandS.Gcd
import KE.KMathG
import KE.DataMinMax
import HandS.Ends
import HandS.Iter
import KE.SortData
import HandS.ExcField
import HandS.Deep
import HandS.Zip
import HandS.Conv
import HandS.DictComp
import HandS.TryMany
import KE.GoesMore
import KE.GoesEnum
import KE.KDictSum
import PyProof.Transfer
import HandS.NoneIn
import HandS.ExcValue
import KE.KExcIs
import PySem.Challenge.RW_sixtylines_k00_errors
set_option Elab.async false
set_option linter.all false
section
set_option Elab.async false
set_option linter.all false
/-! YA: the pure part of Y: values, the list-heap, and a computable meaning for each construct. -/
namespace Y
open PySem L2

/-- values: tuples and frozen lists are pure data, what is mutable is a place of the heap -/
inductive D where
  | non | bl (b : Bool) | int (i : Int) | str (x : Str)
  | tup (xs : List D) | fl (xs : List D) | sq (xs : List D) | loc (k : Nat)
  /-- an object of a class of the program (by its name) that is never changed any more -/
  | obj (c : Str) (ns : List Str) (ds : List D)

mutual
def D.beq : D → D → Bool
  | .non, .non => true
  | .bl a, .bl b => a == b
  | .int a, .int b => decide (a = b)
  | .str a, .str b => decide (a = b)
  | .tup a, .tup b => D.beqL a b
  | .fl a, .fl b => D.beqL a b
  | .sq a, .sq b => D.beqL a b
  | .loc a, .loc b => decide (a = b)
  | .obj c ns a, .obj c' ns' b => decide (c = c') && decide (ns = ns') && D.beqL a b
  | _, _ => false
def D.beqL : List D → List D → Bool
  | [], [] => true
  | a :: as, b :: bs => D.beq a b && D.beqL as bs
  | _, _ => false
end
mutual
theorem D.beq_refl : ∀ a : D, D.beq a a = true
  | .non => by simp [D.beq]
  | .bl b => by simp [D.beq]
  | .int i => by simp [D.beq]
  | .str x => by simp [D.beq]
  | .tup xs => by simp [D.beq, D.beqL_refl xs]
  | .fl xs => by simp [D.beq, D.beqL_refl xs]
  | .sq xs => by simp [D.beq, D.beqL_refl xs]
  | .loc k => by simp [D.beq]
  | .obj c ns xs => by simp [D.beq, D.beqL_refl xs]
theorem D.beqL_refl : ∀ a : List D, D.beqL a a = true
  | [] => by simp [D.beqL]
  | a :: as => by simp [D.beqL, D.beq_refl a, D.beqL_refl as]
end
mutual
theorem D.eq_of : ∀ (a b : D), D.beq a b = true → a = b
  | .non, b, h => by cases b <;> simp_all [D.beq]
  | .bl _, b, h => by cases b <;> simp_all [D.beq]
  | .int _, b, h => by cases b <;> simp_all [D.beq]
  | .str _, b, h => by cases b <;> simp_all [D.beq]
  | .tup xs, b, h => by
    cases b <;> simp [D.beq] at h
    rename_i ys
    rw [D.eqL_of xs ys h]
  | .fl xs, b, h => by
    cases b <;> simp [D.beq] at h
    rename_i ys
    rw [D.eqL_of xs ys h]
  | .sq xs, b, h => by
    cases b <;> simp [D.beq] at h
    rename_i ys
    rw [D.eqL_of xs ys h]
  | .loc _, b, h => by cases b <;> simp_all [D.beq]
  | .obj c ns xs, b, h => by
    cases b <;> simp [D.beq] at h
    rename_i c' ns' ys
    rw [D.eqL_of xs ys h.2, h.1.1, h.1.2]
theorem D.eqL_of : ∀ (a b : List D), D.beqL a b = true → a = b
  | [], b, h => by cases b <;> simp_all [D.beqL]
  | a :: as, b, h => by
    cases b with
    | nil => simp [D.beqL] at h
    | cons c cs =>
      simp [D.beqL] at h
      rw [D.eq_of a c h.1, D.eqL_of as cs h.2]
end
instance : DecidableEq D := fun a b => if h : D.beq a b = true then .isTrue (D.eq_of a b h) else .isFalse fun e => h (e ▸ D.beq_refl a)

/-- what is mutable -/
inductive Ob where
  | lst (xs : List D) | dct (kvs : List (Key × D)) | dtu (kvs : List (List Key × D))
  deriving DecidableEq
abbrev Hm := List Ob
abbrev Sl := List (Option D)
structure Exn where
  cls : Str
  fs : List (Str × D)
/-- how an evaluation ends; bad: not served (nothing is said then) -/
inductive Rs (α : Type) where
  | ok (a : α) (h : Hm) | ex (e : Exn) (h : Hm) | bad
def Rs.bind {α β : Type} (r : Rs α) (k : α → Hm → Rs β) : Rs β := match r with
  | .ok a h => k a h
  | .ex e h => .ex e h
  | .bad => .bad
/-- within a comprehension nothing is raised -/
def Rs.bindN {α β : Type} (r : Rs α) (k : α → Hm → Rs β) : Rs β := match r with
  | .ok a h => k a h
  | _ => .bad
def ofO {α : Type} (o : Option α) (h : Hm) : Rs α := match o with
  | some a => .ok a h
  | none => .bad
abbrev Ev := Sl → Hm → Rs D
abbrev Tv := Sl → Hm → Rs Bool
/-- a list that nobody else holds yet -/
abbrev Lv := Sl → Hm → Rs (List D)
abbrev Av := Sl → Hm → Rs (List D)
inductive Out where
  | nx (σ : Sl) (h : Hm) | rt (d : D) (h : Hm) | rl (ds : List D) (h : Hm) | bk (σ : Sl) (h : Hm) | ct (σ : Sl) (h : Hm) | ex (e : Exn) (σ : Sl) (h : Hm) | bad
abbrev Sv := Sl → Hm → Out
abbrev Fn := List D → Hm → Rs D
abbrev FnL := List D → Hm → Rs (List D)

/-! ### reading -/
def lstOf (h : Hm) : D → Option (List D)
  | .fl xs => some xs
  | .sq xs => some xs
  | .loc k => match h[k]? with
    | some (.lst xs) => some xs
    | _ => none
  | _ => none
def seqOf (h : Hm) : D → Option (List D)
  | .tup xs => some xs
  | d => lstOf h d
/-- a list of the program's own making -/
def ownL (h : Hm) : D → Option (List D)
  | .fl xs => some xs
  | .loc k => match h[k]? with
    | some (.lst xs) => some xs
    | _ => none
  | _ => none
def line : Nat := 16777216
def big : Int := 18446744073709551616

/-! ### expressions -/
def eC (d : D) : Ev := fun _ h => .ok d h
def eV (i : Nat) : Ev := fun σ h => match σ[i]? with
  | some (some d) => .ok d h
  | _ => .bad
def e1 (o : Hm → D → Option D) (f : Ev) : Ev := fun σ h => (f σ h).bind fun x h1 => ofO (o h1 x) h1
def e2 (o : Hm → D → D → Option D) (f g : Ev) : Ev := fun σ h => (f σ h).bind fun x h1 => (g σ h1).bind fun y h2 => ofO (o h2 x y) h2
def aN : Av := fun _ h => .ok [] h
def aC (f : Ev) (g : Av) : Av := fun σ h => (f σ h).bind fun x h1 => (g σ h1).bind fun xs h2 => .ok (x :: xs) h2
def eTup (a : Av) : Ev := fun σ h => (a σ h).bind fun xs h1 => if xs.length ≤ line then .ok (.tup xs) h1 else .bad
def lLst (a : Av) : Lv := fun σ h => (a σ h).bind fun xs h1 => if xs.length ≤ line then .ok xs h1 else .bad
/-- a fresh list, held for good as it is -/
def eFrz (f : Lv) : Ev := fun σ h => (f σ h).bind fun xs h1 => .ok (.fl xs) h1
/-- a fresh list that will be changed -/
def eMut (f : Lv) : Ev := fun σ h => (f σ h).bind fun xs h1 => .ok (.loc h1.length) (h1 ++ [.lst xs])

/-! ### operators -/
def oAdd (h : Hm) : D → D → Option D
  | .int i, .int j => some (.int (i + j))
  | .str a, .str b => if a.length + b.length ≤ line then some (.str (a ++ b)) else none
  | .tup xs, .tup ys => if xs.length + ys.length ≤ line then some (.tup (xs ++ ys)) else none
  | x, y => match ownL h x, ownL h y with
    | some xs, some ys => if xs.length + ys.length ≤ line then some (.fl (xs ++ ys)) else none
    | _, _ => none
def oSub (_ : Hm) : D → D → Option D
  | .int i, .int j => some (.int (i - j))
  | _, _ => none
def mulOk (i j : Int) : Bool := (decide (-big < i) && decide (i < big)) || (decide (-big < j) && decide (j < big))
def oMul (_ : Hm) : D → D → Option D
  | .int i, .int j => if mulOk i j then some (.int (i * j)) else none
  | _, _ => none
def oDiv (_ : Hm) : D → D → Option D
  | .int i, .int j => if 0 < j ∧ j < 1073741824 then some (.int (i / j)) else if j < 0 ∧ -1073741824 < j then some (.int (i.fdiv j)) else none
  | _, _ => none
def oMod (_ : Hm) : D → D → Option D
  | .int i, .int j => if 0 < j then some (.int (i % j)) else if j < 0 then some (.int (i.fmod j)) else none
  | _, _ => none
def oPow (_ : Hm) : D → D → Option D
  | .int i, .int j => if 0 ≤ j ∧ j ≤ 1000000 ∧ -big < i ∧ i < big then some (.int (i ^ j.toNat)) else none
  | _, _ => none
def uNeg (_ : Hm) : D → Option D
  | .int i => some (.int (-i))
  | _ => none

/-! ### comparisons -/
mutual
/-- as plain data -/
def py (h : Hm) : D → Option PyData
  | .non => some .none
  | .bl b => some (.bool b)
  | .int i => some (.int i)
  | .str x => some (.str x)
  | .tup xs => (pyL h xs).map .tuple
  | .fl xs => (pyL h xs).map .list
  | .sq xs => (pyL h xs).map .list
  | .loc _ => none
  | .obj _ _ _ => none
def pyL (h : Hm) : List D → Option (List PyData)
  | [] => some []
  | x :: xs => match py h x, pyL h xs with
    | some a, some b => some (a :: b)
    | _, _ => none
end
def eqD (h : Hm) (x y : D) : Option Bool := match x, y with
  | .int i, .int j => some (decide (i = j))
  | .str i, .str j => some (decide (i = j))
  | .bl i, .bl j => some (i == j)
  | x, y => match py h x, py h y with
    | some a, some b => if SeqAt.shaped a && SeqAt.shaped b then some (PyData.eqv a b) else none
    | _, _ => none
def oEq (h : Hm) (x y : D) : Option D := (eqD h x y).map .bl
def oNe (h : Hm) (x y : D) : Option D := (eqD h x y).map fun b => .bl (!b)
def intsOf : List D → Option (List Int)
  | [] => some []
  | .int i :: r => (intsOf r).map (i :: ·)
  | _ => none
def oLt (_ : Hm) : D → D → Option D
  | .int i, .int j => some (.bl (decide (i < j)))
  | .tup xs, .tup ys => match intsOf xs, intsOf ys with
    | some a, some b => some (.bl (HT.lexLt a b))
    | _, _ => none
  | _, _ => none
def oLe (_ : Hm) : D → D → Option D
  | .int i, .int j => some (.bl (decide (i ≤ j)))
  | _, _ => none
def oGt (_ : Hm) : D → D → Option D
  | .int i, .int j => some (.bl (decide (j < i)))
  | _, _ => none
def oGe (_ : Hm) : D → D → Option D
  | .int i, .int j => some (.bl (decide (j ≤ i)))
  | _, _ => none
def isN : D → Bool
  | .non => true
  | _ => false
/-- x is None, True, False -/
def oIs (_ : Hm) : D → D → Option D
  | x, .non => some (.bl (isN x))
  | .bl a, .bl b => some (.bl (decide (a = b)))
  | _, _ => none
def oIsNot (_ : Hm) : D → D → Option D
  | x, .non => some (.bl (!isN x))
  | .bl a, .bl b => some (.bl (!decide (a = b)))
  | _, _ => none
/-- a < b < c: b once -/
def eCh (o o' : Hm → D → D → Option D) (f g k : Ev) : Ev := fun σ h => (f σ h).bind fun x h1 => (g σ h1).bind fun y h2 => match o h2 x y with
  | some (.bl true) => (k σ h2).bind fun z h3 => ofO (o' h3 y z) h3
  | some (.bl false) => .ok (.bl false) h2
  | _ => .bad

/-! ### truth -/
def truth (h : Hm) : D → Option Bool
  | .non => some false
  | .bl b => some b
  | .int i => some (decide (i ≠ 0))
  | .str x => if x.length ≤ line then some (decide (x.length ≠ 0)) else none
  | .tup xs => some (!xs.isEmpty)
  | d => (lstOf h d).map fun xs => !xs.isEmpty
/-- an expression that gives a bool, as a test -/
def tB (f : Ev) : Tv := fun σ h => (f σ h).bind fun x h1 => match x with
  | .bl b => .ok b h1
  | _ => .bad
/-- of any value -/
def tT (f : Ev) : Tv := fun σ h => (f σ h).bind fun x h1 => ofO (truth h1 x) h1
def tAnd (a b : Tv) : Tv := fun σ h => (a σ h).bind fun c h1 => if c = true then b σ h1 else .ok false h1
def tOr (a b : Tv) : Tv := fun σ h => (a σ h).bind fun c h1 => if c = true then .ok true h1 else b σ h1
def tNot (a : Tv) : Tv := fun σ h => (a σ h).bind fun c h1 => .ok (!c) h1
/-- a and b, a or b, not a, as values (all but the last a bool) -/
def eAnd (a b : Ev) : Ev := fun σ h => (a σ h).bind fun x h1 => match x with
  | .bl true => b σ h1
  | .bl false => .ok (.bl false) h1
  | _ => .bad
def eOr (a b : Ev) : Ev := fun σ h => (a σ h).bind fun x h1 => match x with
  | .bl false => b σ h1
  | .bl true => .ok (.bl true) h1
  | _ => .bad
def uNot (_ : Hm) : D → Option D
  | .bl b => some (.bl (!b))
  | _ => none
def eIf (c : Tv) (a b : Ev) : Ev := fun σ h => (c σ h).bind fun t h1 => if t = true then a σ h1 else b σ h1

/-! ### places -/
def ixD (h : Hm) : D → D → Option D
  | .str x, .int i => if x.length ≤ line then (atI x.cps.toList i).map fun c => .str ⟨#[c]⟩ else none
  | d, .int i => (seqOf h d).bind fun xs => atI xs i
  | _, _ => none
def keyOf : D → Option Key
  | .int i => some (.inl i)
  | .str x => some (.inr x)
  | _ => none
def keysOf : List D → Option (List Key)
  | [] => some []
  | x :: xs => match keyOf x, keysOf xs with
    | some k, some ks => some (k :: ks)
    | _, _ => none
/-- a tuple as a key -/
def tkOf : D → Option (List Key)
  | .tup xs => keysOf xs
  | _ => none
def dtuOf (h : Hm) : D → Option (List (List Key × D))
  | .loc k => match h[k]? with
    | some (.dtu kvs) => some kvs
    | _ => none
  | _ => none
def dctOf (h : Hm) : D → Option (List (Key × D))
  | .loc k => match h[k]? with
    | some (.dct kvs) => some kvs
    | _ => none
  | _ => none
def getK {κ : Type} [DecidableEq κ] (kvs : List (κ × D)) (k : κ) : Option D := (kvs.find? fun kv => decide (kv.1 = k)).map (·.2)
def setK {κ : Type} [DecidableEq κ] (kvs : List (κ × D)) (k : κ) (v : D) : List (κ × D) :=
  if (kvs.any fun kv => decide (kv.1 = k)) = true then kvs.map (fun kv => if kv.1 = k then (kv.1, v) else kv) else kvs ++ [(k, v)]
def oDget (h : Hm) (x y : D) : Option D := match dctOf h x, keyOf y with
  | some kvs, some k => getK kvs k
  | _, _ => none
/-- x[y] -/
def oIx (h : Hm) (x y : D) : Option D := match dctOf h x with
  | some _ => oDget h x y
  | none => ixD h x y
/-- isinstance of a built-in class -/
inductive Ty where | int | bool | tuple | list | str | dict
def instD (h : Hm) : Ty → D → Option Bool
  | .int, d => match d with | .obj _ _ _ => none | .int _ => some true | .bl _ => some true | .loc k => (h[k]?).map fun _ => false | _ => some false
  | .bool, d => match d with | .obj _ _ _ => none | .bl _ => some true | .loc k => (h[k]?).map fun _ => false | _ => some false
  | .str, d => match d with | .obj _ _ _ => none | .str _ => some true | .loc k => (h[k]?).map fun _ => false | _ => some false
  | .tuple, d => match d with | .obj _ _ _ => none | .tup _ => some true | .loc k => (h[k]?).map fun _ => false | _ => some false
  | .list, d => match d with | .obj _ _ _ => none | .fl _ => some true | .sq _ => some true | .loc k => (match h[k]? with | some (.lst _) => some true | some (.dct _) => some false | some (.dtu _) => some false | none => none) | _ => some false
  | .dict, d => match d with | .obj _ _ _ => none | .loc k => (match h[k]? with | some (.lst _) => some false | some (.dct _) => some true | some (.dtu _) => some true | none => none) | _ => some false
def eIs (T : Ty) (f : Ev) : Ev := e1 (fun h x => (instD h T x).map .bl) f

/-! ### calls -/
def bLen (h : Hm) : List D → Option D
  | [.str x] => if x.length ≤ line then some (.int x.length) else none
  | [d] => (seqOf h d).map fun xs => .int xs.length
  | _ => none
def bInt (_ : Hm) : List D → Option D
  | [.int i] => some (.int i)
  | [.bl b] => some (.int (if b then 1 else 0))
  | _ => none
def bAbs (_ : Hm) : List D → Option D
  | [.int i] => some (.int (if i < 0 then -i else i))
  | _ => none
def bools : List D → Option (List Bool)
  | [] => some []
  | .bl b :: r => (bools r).map (b :: ·)
  | _ => none
def bAll (h : Hm) : List D → Option D
  | [d] => match (lstOf h d).bind bools with
    | some bs => some (.bl (bs.all id))
    | none => none
  | _ => none
def bAny (h : Hm) : List D → Option D
  | [d] => match (lstOf h d).bind bools with
    | some bs => some (.bl (bs.any id))
    | none => none
  | _ => none
def bSum (h : Hm) : List D → Option D
  | [d] => match (lstOf h d).bind intsOf with
    | some ns => some (.int ns.sum)
    | none => none
  | _ => none
/-- f(..), f a built-in that makes nothing -/
def eB (o : Hm → List D → Option D) (a : Av) : Ev := fun σ h => (a σ h).bind fun xs h1 => ofO (o h1 xs) h1
/-- f(..), f a built-in that makes a list, a tuple -/
def lB (o : Hm → List D → Option (List D)) (a : Av) : Lv := fun σ h => (a σ h).bind fun xs h1 => ofO (o h1 xs) h1
def mList (h : Hm) : List D → Option (List D)
  | [d] => seqOf h d
  | _ => none
def bTuple (h : Hm) : List D → Option D
  | [.tup xs] => some (.tup xs)
  | [d] => (lstOf h d).map .tup
  | _ => none
/-- the same of a list that was just made (all, any, sum, tuple, len, sorted ..) -/
def eBL (o : List D → Option D) (f : Lv) : Ev := fun σ h => (f σ h).bind fun xs h1 => ofO (o xs) h1
def eCall (F : Fn) (a : Av) : Ev := fun σ h => (a σ h).bind fun xs h1 => F xs h1
def lCall (F : FnL) (a : Av) : Lv := fun σ h => (a σ h).bind fun xs h1 => F xs h1

/-! ### targets, loops, comprehensions -/
abbrev Gv := D → Sl → Option Sl
def gN (i : Nat) : Gv := fun d σ => some (σ.set i (some d))
def gTs : List Gv → List D → Sl → Option Sl
  | [], [], σ => some σ
  | g :: gs, d :: ds, σ => (g d σ).bind (gTs gs ds)
  | _, _, _ => none
def gT (gs : List Gv) : Gv := fun d σ => match d with
  | .tup xs => gTs gs xs σ
  | _ => none
def unset (σ : Sl) : List Nat → Sl
  | [] => σ
  | v :: vs => (unset σ vs).set v none
/-- what a for or a comprehension walks: its items -/
abbrev Iv := Sl → Hm → Rs (List D)
def iT (f : Ev) : Iv := fun σ h => (f σ h).bind fun x h1 => match x with
  | .tup xs => .ok xs h1
  | _ => .bad
def iF (f : Ev) : Iv := fun σ h => (f σ h).bind fun x h1 => match x with
  | .fl xs => .ok xs h1
  | .sq xs => .ok xs h1
  | _ => .bad
def small (i : Int) : Bool := decide (i.natAbs.log2 < 62)
def rangeD (lo : Int) (n : Nat) : List D := (List.range n).map fun i => .int (lo + (i : Nat))
def iR1 (a : Av) : Iv := fun σ h => (a σ h).bind fun xs h1 => match xs with
  | [.int j] => if small j then .ok (rangeD 0 j.toNat) h1 else .bad
  | _ => .bad
def iR2 (a : Av) : Iv := fun σ h => (a σ h).bind fun xs h1 => match xs with
  | [.int i, .int j] => if small i && small j then .ok (rangeD i (j - i).toNat) h1 else .bad
  | _ => .bad
def forL (g : Gv) (b : Sv) : List D → Sv
  | [], σ, h => .nx σ h
  | d :: ds, σ, h => match g d σ with
    | none => .bad
    | some σ1 => match b σ1 h with
      | .nx σ2 h2 => forL g b ds σ2 h2
      | .ct σ2 h2 => forL g b ds σ2 h2
      | .bk σ2 h2 => .nx σ2 h2
      | o => o
def compL (g : Gv) (c : Tv) (e : Ev) (σ : Sl) : List D → Hm → Rs (List D)
  | [], h => .ok [] h
  | d :: ds, h => match g d σ with
    | none => .bad
    | some σ1 => (c σ1 h).bindN fun t h1 => if t = true then (e σ1 h1).bindN fun y h2 => (compL g c e σ ds h2).bindN fun ys h3 => .ok (y :: ys) h3 else compL g c e σ ds h1
/-- the same over a list of one's own (or any), that must stand as it was at each step -/
def forG (G : Hm → Bool) (g : Gv) (b : Sv) : List D → Sv
  | [], σ, h => if G h = true then .nx σ h else .bad
  | d :: ds, σ, h => if G h = true then (match g d σ with
    | none => .bad
    | some σ1 => match b σ1 h with
      | .nx σ2 h2 => forG G g b ds σ2 h2
      | .ct σ2 h2 => forG G g b ds σ2 h2
      | .bk σ2 h2 => .nx σ2 h2
      | o => o) else .bad
def compG (G : Hm → Bool) (g : Gv) (c : Tv) (e : Ev) (σ : Sl) : List D → Hm → Rs (List D)
  | [], h => if G h = true then .ok [] h else .bad
  | d :: ds, h => if G h = true then (match g d σ with
    | none => .bad
    | some σ1 => (c σ1 h).bindN fun t h1 => if t = true then (e σ1 h1).bindN fun y h2 => (compG G g c e σ ds h2).bindN fun ys h3 => .ok (y :: ys) h3 else compG G g c e σ ds h1) else .bad
theorem forG_yes {G : Hm → Bool} (hG : ∀ h, G h = true) {g : Gv} {b : Sv} : ∀ (ds : List D) (σ : Sl) (h : Hm), forG G g b ds σ h = forL g b ds σ h
  | [], σ, h => by simp [forG, forL, hG]
  | d :: ds, σ, h => by
    have ih := forG_yes hG (g := g) (b := b) ds
    simp only [forG, forL, hG, if_true]
    cases g d σ with
    | none => rfl
    | some σ1 => cases e : b σ1 h <;> simp [e, ih]
theorem compG_yes {G : Hm → Bool} (hG : ∀ h, G h = true) {g : Gv} {c : Tv} {e : Ev} {σ : Sl} : ∀ (ds : List D) (h : Hm), compG G g c e σ ds h = compL g c e σ ds h
  | [], h => by simp [compG, compL, hG]
  | d :: ds, h => by
    have ih := compG_yes hG (g := g) (c := c) (e := e) (σ := σ) ds
    simp only [compG, compL, hG, if_true, ih]
abbrev Iv2 := Sl → Hm → Rs (Option Nat × List D)
def gd (s : Option Nat) (ds : List D) (h : Hm) : Bool := match s with
  | none => true
  | some k => decide (h[k]? = some (.lst ds))
/-- any sequence, walked -/
def iX (f : Ev) : Iv2 := fun σ h => (f σ h).bind fun x h1 => match x with
  | .tup xs => .ok (none, xs) h1
  | .fl xs => .ok (none, xs) h1
  | .sq xs => .ok (none, xs) h1
  | .loc k => match h1[k]? with
    | some (.lst xs) => .ok (some k, xs) h1
    | _ => .bad
  | _ => .bad
/-- a pure walk as one that may be of one's own -/
def iP (f : Iv) : Iv2 := fun σ h => (f σ h).bind fun xs h1 => .ok (none, xs) h1
def tYes : Tv := fun _ h => .ok true h
/-- [e for g in it if c], its own names at vs -/
def lComp (it : Iv) (g : Gv) (c : Tv) (e : Ev) (vs : List Nat) : Lv := fun σ h => (it σ h).bind fun ds h1 => (compL g c e (unset σ vs) ds h1).bind fun ys h2 => if ys.length ≤ line then .ok ys h2 else .bad

/-! ### statements -/
def sPass : Sv := fun σ h => .nx σ h
def sBk : Sv := fun σ h => .bk σ h
def sCt : Sv := fun σ h => .ct σ h
def sNever : Sv := fun _ _ => .bad
def sSeq (a b : Sv) : Sv := fun σ h => match a σ h with
  | .nx σ1 h1 => b σ1 h1
  | o => o
/-- an evaluation within a statement -/
def Rs.out {α : Type} (r : Rs α) (σ : Sl) (k : α → Hm → Out) : Out := match r with
  | .ok a h => k a h
  | .ex e h => .ex e σ h
  | .bad => .bad
def outO (o : Option Sl) (h : Hm) : Out := match o with
  | some σ => .nx σ h
  | none => .bad
def sIf (c : Tv) (a b : Sv) : Sv := fun σ h => (c σ h).out σ fun t h1 => if t = true then a σ h1 else b σ h1
def sRet (f : Ev) : Sv := fun σ h => (f σ h).out σ fun d h1 => .rt d h1
def sRetL (f : Lv) : Sv := fun σ h => (f σ h).out σ fun d h1 => .rl d h1
def sRetN : Sv := fun _ h => .rt .non h
def sAsg (g : Gv) (f : Ev) : Sv := fun σ h => (f σ h).out σ fun d h1 => outO (g d σ) h1
def sExpr (f : Ev) : Sv := fun σ h => (f σ h).out σ fun _ h1 => .nx σ h1
/-- a, b = x, y -/
def sPar (i j : Nat) (a : Av) : Sv := fun σ h => (a σ h).out σ fun xs h1 => match xs with
  | [x, y] => .nx ((σ.set i (some x)).set j (some y)) h1
  | _ => .bad
/-- o[k] = v, by values -/
def setD (h : Hm) : D → D → D → Option Hm
  | .loc p, k, v => match h[p]? with
    | some (.dct kvs) => match keyOf k with
      | some k => if kvs.length < line then some (h.set p (.dct (setK kvs k v))) else none
      | none => none
    | some (.lst xs) => match k with
      | .int i => (ixN xs.length i).map fun j => h.set p (.lst (xs.set j v))
      | _ => none
    | some (.dtu _) => none
    | none => none
  | _, _, _ => none
/-- o[k] = e -/
def sStore (fo fk fe : Ev) : Sv := fun σ h => (fe σ h).out σ fun v h1 => (fo σ h1).out σ fun o h2 => (fk σ h2).out σ fun k h3 => match setD h3 o k v with
  | some h4 => .nx σ h4
  | none => .bad
/-- o.append(e) -/
def isLst (h : Hm) : D → Bool
  | .loc p => match h[p]? with
    | some (.lst _) => true
    | _ => false
  | _ => false
def appD (h : Hm) : D → D → Option Hm
  | .loc p, v => match h[p]? with
    | some (.lst xs) => if xs.length < line then some (h.set p (.lst (xs ++ [v]))) else none
    | _ => none
  | _, _ => none
def sApp (fo fe : Ev) : Sv := fun σ h => (fo σ h).out σ fun o h1 => if isLst h1 o = true then (fe σ h1).out σ fun v h2 => match appD h2 o v with
  | some h3 => .nx σ h3
  | none => .bad
  else .bad
/-- x op= e, x a name -/
def sAug (i : Nat) (o : Hm → D → D → Option D) (f : Ev) : Sv := fun σ h => match σ[i]? with
  | some (some x) => (f σ h).out σ fun y h1 => match o h1 x y with
    | some z => .nx (σ.set i (some z)) h1
    | none => .bad
  | _ => .bad
def sFor (it : Iv) (g : Gv) (b : Sv) : Sv := fun σ h => (it σ h).out σ fun ds h1 => forL g b ds σ h1
def sForX (it : Iv2) (g : Gv) (b : Sv) : Sv := fun σ h => (it σ h).out σ fun p h1 => forG (gd p.1 p.2) g b p.2 σ h1
def lCompX (it : Iv2) (g : Gv) (c : Tv) (e : Ev) (vs : List Nat) : Lv := fun σ h => (it σ h).bind fun p h1 => (compG (gd p.1 p.2) g c e (unset σ vs) p.2 h1).bind fun ys h2 => if ys.length ≤ line then .ok ys h2 else .bad
def whileL (c : Tv) (b : Sv) : Nat → Sv
  | 0, _, _ => .bad
  | n + 1, σ, h => match c σ h with
    | .ok t h1 => if t = true then (match b σ h1 with
      | .nx σ2 h2 => whileL c b n σ2 h2
      | .ct σ2 h2 => whileL c b n σ2 h2
      | .bk σ2 h2 => .nx σ2 h2
      | o => o) else .nx σ h1
    | .ex e h1 => .ex e σ h1
    | .bad => .bad
def sWhile (c : Tv) (b : Sv) : Sv := fun σ h => whileL c b 1000000000000 σ h
/-- {k: v, ..}, written, that will be changed -/
def mergeD (kvs more : List (Key × D)) : List (Key × D) := more.foldl (fun acc kv => setK acc kv.1 kv.2) kvs
def kvsOf : List D → Option (List (Key × D))
  | [] => some []
  | k :: v :: r => match keyOf k, kvsOf r with
    | some k, some l => some ((k, v) :: l)
    | _, _ => none
  | _ => none
def pN : Av := fun _ h => .ok [] h
def pC (f g : Ev) (r : Av) : Av := fun σ h => (f σ h).bind fun k h1 => (g σ h1).bind fun v h2 => (r σ h2).bind fun l h3 => .ok (k :: v :: l) h3
def eDct (a : Av) : Ev := fun σ h => (a σ h).bind fun l h1 => match kvsOf l with
  | some kvs => if kvs.length ≤ 15 then .ok (.loc h1.length) (h1 ++ [.dct (mergeD [] kvs)]) else .bad
  | none => .bad

/-! ### a def -/
mutual
def D.low (n : Nat) : D → Bool
  | .loc k => decide (k < n)
  | .tup xs => D.lowL n xs
  | .fl xs => D.lowL n xs
  | .sq xs => D.lowL n xs
  | .obj _ _ xs => D.lowL n xs
  | _ => true
def D.lowL (n : Nat) : List D → Bool
  | [] => true
  | d :: ds => D.low n d && D.lowL n ds
end
def Ob.low (n : Nat) : Ob → Bool
  | .lst xs => D.lowL n xs
  | .dct kvs => D.lowL n (kvs.map (·.2))
  | .dtu kvs => D.lowL n (kvs.map (·.2))
/-- the elder objects name no younger one -/
def sealed (n : Nat) (h0 h' : Hm) : Bool := ((h'.take n).zip h0).all fun p => decide (p.1 = p.2) || Ob.low n p.1
/-- a def's end: what it made for itself is forgotten -/
def finP (h0 : Hm) (d : D) (h' : Hm) : Rs D :=
  if h'.length = h0.length then .ok d h' else if D.low h0.length d && sealed h0.length h0 h' && decide (h0.length ≤ h'.length) then .ok d (h'.take h0.length) else .bad
/-- .. it hands back an object of its own -/
def finK (_ : Hm) (d : D) (h' : Hm) : Rs D := .ok d h'
/-- .. it hands back a list of its own that nobody else holds -/
def finL (h0 : Hm) (o : Out) : Rs (List D) := match o with
  | .rl ds h' => if h'.length = h0.length then .ok ds h' else if D.lowL h0.length ds && sealed h0.length h0 h' && decide (h0.length ≤ h'.length) then .ok ds (h'.take h0.length) else .bad
  | .rt (.loc k) h' => match h'[k]? with
    | some (.lst ds) => if D.lowL h0.length ds && sealed h0.length h0 h' && decide (h0.length ≤ k) then .ok ds (h'.take h0.length) else .bad
    | _ => .bad
  | .ex e _ h' => .ex e h'
  | _ => .bad
def startD (n : Nat) (ds : List D) : Sl := ds.map some ++ List.replicate (n - ds.length) none
def fnP (n : Nat) (b : Sv) : Fn := fun ds h => match b (startD n ds) h with
  | .rt d h' => finP h d h'
  | .nx _ h' => finP h .non h'
  | .ex e _ h' => .ex e h'
  | _ => .bad
def fnK (n : Nat) (b : Sv) : Fn := fun ds h => match b (startD n ds) h with
  | .rt d h' => .ok d h'
  | .nx _ h' => .ok .non h'
  | .ex e _ h' => .ex e h'
  | _ => .bad
def fnL (n : Nat) (b : Sv) : FnL := fun ds h => finL h (b (startD n ds) h)
end Y
end

section
set_option Elab.async false
set_option linter.all false
set_option maxRecDepth 100000
set_option maxHeartbeats 2000000
/-! YB: how Y's values stand in HandS's abstract heap; the judgements over Y. -/
namespace Y
open PySem PySem.Spec PyProof.Rows L2

/-- the complete lists of field names of the own classes whose objects never change -/
def fullN (ns : List Str) : Bool := decide (ns ∈ ([["places", "ties", "near"]] : List (List Str)))
/-- the own classes of exceptions -/
def excN (c : Str) : Bool := decide (c ∈ (["BadText", "BadNumber", "BadName", "NoName", "TakenName", "BadWeb", "BadTable", "BadRow", "BadRows", "BadSystem", "BadRoot", "BadPaper", "NotKept", "NothingToUndo", "NothingToRedo"] : List Str))
/-- what never changes stands on -/
structure Per (H H' : Hp) : Prop where
  tup : ∀ b xs, H b = some (.tup xs) → H' b = some (.tup xs)
  frz : ∀ b o u, H b = some (.frz o u) → H' b = some (.frz o u)
  ins : ∀ b C dx (fs : List (Str × V)), fullN (fs.map (·.1)) = true → H b = some (.ins C dx fs) → H' b = some (.ins C dx fs)
  ext : ∀ b ψ, H b = some (.ext ψ) → H' b = some (.ext ψ)
theorem Per.refl (H : Hp) : Per H H := ⟨fun _ _ h => h, fun _ _ _ h => h, fun _ _ _ _ _ h => h, fun _ _ h => h⟩
theorem Per.trans {H H1 H2 : Hp} (a : Per H H1) (b : Per H1 H2) : Per H H2 := ⟨fun c xs h => b.tup c xs (a.tup c xs h), fun c o u h => b.frz c o u (a.frz c o u h), fun c C dx fs f h => b.ins c C dx fs f (a.ins c C dx fs f h), fun c ψ h => b.ext c ψ (a.ext c ψ h)⟩
theorem Per.new {H : Hp} {p : Addr} {o : HO} (h : H p = none) : Per H (upd H p o) :=
  ⟨fun b xs e => by rw [upd_ne (ne_of_none e h)]; exact e, fun b u xs e => by rw [upd_ne (ne_of_none e h)]; exact e, fun b C dx fs _ e => by rw [upd_ne (ne_of_none e h)]; exact e, fun b ψ e => by rw [upd_ne (ne_of_none e h)]; exact e⟩
def mutO : HO → Bool
  | .lst _ => true
  | .dK _ => true
  | .dT _ => true
  | .ins _ _ fs => !fullN (fs.map (·.1))
  | _ => false
theorem Per.wr {H : Hp} {p : Addr} {o o' : HO} (h : H p = some o) (m : mutO o = true) : Per H (upd H p o') := by
  constructor
  · intro b xs e
    have : b ≠ p := fun z => by rw [z, h] at e; cases e; cases m
    rw [upd_ne this]; exact e
  · intro b u xs e
    have : b ≠ p := fun z => by rw [z, h] at e; cases e; cases m
    rw [upd_ne this]; exact e
  · intro b C dx fs hf e
    have : b ≠ p := fun z => by rw [z, h] at e; cases e; simp [mutO, hf] at m
    rw [upd_ne this]; exact e
  · intro b ψ e
    have : b ≠ p := fun z => by rw [z, h] at e; cases e; cases m
    rw [upd_ne this]; exact e

/-- a list that is frozen: known to the object, or the module's own -/
def FzL (K : PySem.W.Frag) (H : Hp) (a : Addr) (xs : List V) : Prop := (∃ o, H a = some (.frz o (.lst xs))) ∨ SqL K (fun _ => none) a xs
theorem FzL.sq {K : PySem.W.Frag} {H : Hp} {a : Addr} {xs : List V} (h : FzL K H a xs) : SqL K H a xs := by
  rcases h with ⟨o, h⟩ | h
  · exact .inl (.inr ⟨o, h⟩)
  · rcases h with (h | ⟨_, h⟩) | h
    · cases h
    · cases h
    · exact .inr h
theorem FzL.per {K : PySem.W.Frag} {H H' : Hp} {a : Addr} {xs : List V} (h : FzL K H a xs) (p : Per H H') : FzL K H' a xs := by
  rcases h with ⟨o, h⟩ | h
  · exact .inl ⟨o, p.frz _ _ _ h⟩
  · exact .inr h
theorem SqT.per {K : PySem.W.Frag} {H H' : Hp} {a : Addr} {xs : List V} (h : SqT K H a xs) (p : Per H H') : SqT K H' a xs := by
  rcases h with (h | ⟨o, h⟩) | h
  · exact .inl (.inl (p.tup _ _ h))
  · exact .inl (.inr ⟨o, p.frz _ _ _ h⟩)
  · exact .inr h

mutual
inductive Rep (K : PySem.W.Frag) (φ : List Addr) (H : Hp) : D → V → Prop
  | non : Rep K φ H .non .non
  | bl (b : Bool) : Rep K φ H (.bl b) (.bl b)
  | int (i : Int) : Rep K φ H (.int i) (.int i)
  | str (x : Str) : Rep K φ H (.str x) (.str x)
  | tup {a : Addr} {ds : List D} {vs : List V} (h : H a = some (.tup vs)) (r : RepL K φ H ds vs) : Rep K φ H (.tup ds) (.ref a)
  | fl {a : Addr} {o : Obj} {ds : List D} {vs : List V} (h : H a = some (.frz o (.lst vs))) (r : RepL K φ H ds vs) : Rep K φ H (.fl ds) (.ref a)
  | sq {a : Addr} {ds : List D} {vs : List V} (h : FzL K H a vs) (r : RepL K φ H ds vs) : Rep K φ H (.sq ds) (.ref a)
  | loc {k : Nat} {a : Addr} (h : φ[k]? = some a) : Rep K φ H (.loc k) (.ref a)
  | obj {a C dx : Addr} {c : Str} {ns : List Str} {fs : List (Str × V)} {ds : List D} {vs : List V} (hc : PySem.W.nsIn K mainGlobals c = some (some (.ref C))) (h : H a = some (.ins C dx fs)) (e1 : fs.map (·.1) = ns) (e2 : fs.map (·.2) = vs) (r : RepL K φ H ds vs) (hf : fullN (fs.map (·.1)) = true) : Rep K φ H (.obj c ns ds) (.ref a)
  | exo {a C : Addr} {c : Str} {ns : List Str} {d : Option Addr} {fs : List (Str × V)} {ds : List D} {vs : List V} {ψ : Heap → Prop} (hc : PySem.W.nsIn K mainGlobals c = some (some (.ref C))) (he : excN c = true) (h : H a = some (.ext ψ))
      (hψ : ∀ hp, ψ hp → ∃ oe xs, hp.get? a = some oe ∧ Zc (.ref C) d oe ∧ oe.data = .fields xs) (hd : (d = none ∧ fs = []) ∨ ∃ dx, d = some dx ∧ H dx = some (exd dx fs)) (e1 : fs.map (·.1) = ns) (e2 : fs.map (·.2) = vs) (r : RepL K φ H ds vs) : Rep K φ H (.obj c ns ds) (.ref a)
inductive RepL (K : PySem.W.Frag) (φ : List Addr) (H : Hp) : List D → List V → Prop
  | nil : RepL K φ H [] []
  | cons {d : D} {v : V} {ds : List D} {vs : List V} (h : Rep K φ H d v) (r : RepL K φ H ds vs) : RepL K φ H (d :: ds) (v :: vs)
end
section
variable {K : PySem.W.Frag} {φ φ' : List Addr} {H H' : Hp}
theorem pre_get {k : Nat} {a : Addr} (p : φ <+: φ') (h : φ[k]? = some a) : φ'[k]? = some a := by
  obtain ⟨t, rfl⟩ := p
  rw [List.getElem?_append_left (List.getElem?_eq_some_iff.mp h).1]
  exact h
mutual
theorem Rep.mono (p : φ <+: φ') (q : Per H H') : ∀ (d : D) (v : V), Rep K φ H d v → Rep K φ' H' d v
  | .non, _, h => by cases h; exact .non
  | .bl b, _, h => by cases h; exact .bl b
  | .int b, _, h => by cases h; exact .int b
  | .str b, _, h => by cases h; exact .str b
  | .tup ds, _, h => by
    cases h with
    | tup h r => exact .tup (q.tup _ _ h) (RepL.mono p q ds _ r)
  | .fl ds, _, h => by
    cases h with
    | fl h r => exact .fl (q.frz _ _ _ h) (RepL.mono p q ds _ r)
  | .sq ds, _, h => by
    cases h with
    | sq h r => exact .sq (h.per q) (RepL.mono p q ds _ r)
  | .loc k, _, h => by
    cases h with
    | loc h => exact .loc (pre_get p h)
  | .obj c ns ds, _, h => by
    cases h with
    | obj hc h e1 e2 r hf => exact .obj hc (q.ins _ _ _ _ hf h) e1 e2 (RepL.mono p q ds _ r) hf
    | exo hc he h hψ hd e1 e2 r => exact .exo hc he (q.ext _ _ h) hψ (hd.elim .inl fun ⟨dx, a1, a2⟩ => .inr ⟨dx, a1, q.ext _ _ a2⟩) e1 e2 (RepL.mono p q ds _ r)
theorem RepL.mono (p : φ <+: φ') (q : Per H H') : ∀ (d : List D) (v : List V), RepL K φ H d v → RepL K φ' H' d v
  | [], _, h => by cases h; exact .nil
  | d :: ds, _, h => by
    cases h with
    | cons h r => exact .cons (Rep.mono p q d _ h) (RepL.mono p q ds _ r)
end
mutual
/-- what names no younger place -/
theorem Rep.cut (n : Nat) : ∀ (d : D) (v : V), D.low n d = true → Rep K φ H d v → Rep K (φ.take n) H d v
  | .non, _, _, h => by cases h; exact .non
  | .bl b, _, _, h => by cases h; exact .bl b
  | .int b, _, _, h => by cases h; exact .int b
  | .str b, _, _, h => by cases h; exact .str b
  | .tup ds, _, l, h => by
    cases h with
    | tup h r => exact .tup h (RepL.cut n ds _ (by simpa [D.low] using l) r)
  | .fl ds, _, l, h => by
    cases h with
    | fl h r => exact .fl h (RepL.cut n ds _ (by simpa [D.low] using l) r)
  | .sq ds, _, l, h => by
    cases h with
    | sq h r => exact .sq h (RepL.cut n ds _ (by simpa [D.low] using l) r)
  | .loc k, _, l, h => by
    cases h with
    | loc h =>
      have : k < n := by simpa [D.low] using l
      exact .loc (by rw [List.getElem?_take_of_lt this]; exact h)
  | .obj c ns ds, _, l, h => by
    cases h with
    | obj hc h e1 e2 r hf => exact .obj hc h e1 e2 (RepL.cut n ds _ (by simpa [D.low] using l) r) hf
    | exo hc he h hψ hd e1 e2 r => exact .exo hc he h hψ hd e1 e2 (RepL.cut n ds _ (by simpa [D.low] using l) r)
theorem RepL.cut (n : Nat) : ∀ (d : List D) (v : List V), D.lowL n d = true → RepL K φ H d v → RepL K (φ.take n) H d v
  | [], _, _, h => by cases h; exact .nil
  | d :: ds, _, l, h => by
    simp [D.lowL] at l
    cases h with
    | cons h r => exact .cons (Rep.cut n d _ l.1 h) (RepL.cut n ds _ l.2 r)
end
theorem RepL.length : ∀ {ds : List D} {vs : List V}, RepL K φ H ds vs → ds.length = vs.length
  | [], _, h => by cases h; rfl
  | d :: ds, _, h => by
    cases h with
    | cons _ r => simp [RepL.length r]
theorem RepL.get : ∀ {ds : List D} {vs : List V} {i : Nat} {d : D}, RepL K φ H ds vs → ds[i]? = some d → ∃ v, vs[i]? = some v ∧ Rep K φ H d v
  | [], _, _, _, _, e => by simp at e
  | c :: ds, _, 0, d, h, e => by
    cases h with
    | cons q _ => exact ⟨_, rfl, by simp at e; exact e ▸ q⟩
  | c :: ds, _, i + 1, d, h, e => by
    cases h with
    | cons _ r =>
      obtain ⟨v, h1, h2⟩ := RepL.get (i := i) r (by simpa using e)
      exact ⟨v, by simpa using h1, h2⟩
theorem RepL.get' : ∀ {ds : List D} {vs : List V} {i : Nat} {v : V}, RepL K φ H ds vs → vs[i]? = some v → ∃ d, ds[i]? = some d ∧ Rep K φ H d v
  | _, [], _, _, _, e => by simp at e
  | _, c :: vs, 0, v, h, e => by
    cases h with
    | cons q _ => exact ⟨_, rfl, by simp at e; exact e ▸ q⟩
  | _, c :: vs, i + 1, v, h, e => by
    cases h with
    | cons _ r =>
      obtain ⟨d, h1, h2⟩ := RepL.get' (i := i) r (by simpa using e)
      exact ⟨d, by simpa using h1, h2⟩
theorem RepL.append : ∀ {ds es : List D} {vs us : List V}, RepL K φ H ds vs → RepL K φ H es us → RepL K φ H (ds ++ es) (vs ++ us)
  | [], _, _, _, h, q => by cases h; exact q
  | _ :: _, _, _, _, h, q => by
    cases h with
    | cons h r => exact .cons h (RepL.append r q)
theorem RepL.set {d : D} {v : V} (h : Rep K φ H d v) : ∀ {ds : List D} {vs : List V} (i : Nat), RepL K φ H ds vs → RepL K φ H (ds.set i d) (vs.set i v)
  | [], _, _, r => by cases r; exact .nil
  | _ :: _, _, 0, r => by
    cases r with
    | cons _ r => exact .cons h r
  | _ :: _, _, i + 1, r => by
    cases r with
    | cons q r => exact .cons q (RepL.set h i r)
theorem RepL.nil_iff {ds : List D} {vs : List V} (r : RepL K φ H ds vs) : ds = [] ↔ vs = [] := by
  cases r <;> simp
theorem RepL.empty {ds : List D} {vs : List V} (r : RepL K φ H ds vs) : vs.isEmpty = ds.isEmpty := by
  cases r <;> rfl
theorem RepL.intsOf : ∀ {ds : List D} {vs : List V} {ns : List Int}, RepL K φ H ds vs → intsOf ds = some ns → vs = ns.map V.int
  | [], _, ns, h, e => by
    cases h
    simp [Y.intsOf] at e
    subst e; rfl
  | d :: ds, _, ns, h, e => by
    cases h with
    | cons h r =>
      cases d <;> simp [Y.intsOf] at e
      obtain ⟨a, ha, rfl⟩ := e
      cases h
      rw [RepL.intsOf r ha]; rfl
theorem RepL.bools : ∀ {ds : List D} {vs : List V} {ns : List Bool}, RepL K φ H ds vs → bools ds = some ns → vs = ns.map V.bl
  | [], _, ns, h, e => by
    cases h
    simp [Y.bools] at e
    subst e; rfl
  | d :: ds, _, ns, h, e => by
    cases h with
    | cons h r =>
      cases d <;> simp [Y.bools] at e
      obtain ⟨a, ha, rfl⟩ := e
      cases h
      rw [RepL.bools r ha]; rfl

/-- a dict's pairs -/
abbrev RepK {κ : Type} (K : PySem.W.Frag) (φ : List Addr) (H : Hp) : List (κ × D) → List (κ × V) → Prop := Paired fun p q => p.1 = q.1 ∧ Rep K φ H p.2 q.2
theorem RepK.mono {κ : Type} (p : φ <+: φ') (q : Per H H') {a : List (κ × D)} {b : List (κ × V)} (r : RepK K φ H a b) : RepK K φ' H' a b := Paired.mapP r fun _ _ z => ⟨z.1, Rep.mono p q _ _ z.2⟩
theorem RepK.get {κ : Type} [DecidableEq κ] {a : List (κ × D)} {b : List (κ × V)} (r : RepK K φ H a b) (k : κ) : (getK a k = none ∧ valV b k = none) ∨ ∃ d v, getK a k = some d ∧ valV b k = some v ∧ Rep K φ H d v := by
  induction r with
  | nil => exact .inl ⟨rfl, rfl⟩
  | @cons p q a b h _ ih =>
    by_cases e : p.1 = k
    · exact .inr ⟨p.2, q.2, by simp [getK, List.find?_cons, e], by simp [valV, List.find?_cons, ← h.1, e], h.2⟩
    · have e1 : getK (p :: a) k = getK a k := by simp [getK, List.find?_cons, e]
      have e2 : valV (q :: b) k = valV b k := valV_neg (by rw [← h.1]; exact e)
      rw [e1, e2]
      exact ih
theorem RepK.any {κ : Type} [DecidableEq κ] {a : List (κ × D)} {b : List (κ × V)} (r : RepK K φ H a b) (k : κ) : (a.any fun kv => decide (kv.1 = k)) = (b.any fun kv => decide (kv.1 = k)) := by
  induction r with
  | nil => rfl
  | @cons p q a b h _ ih => simp only [List.any_cons, ih, h.1]
theorem RepK.map {κ : Type} [DecidableEq κ] {a : List (κ × D)} {b : List (κ × V)} (r : RepK K φ H a b) (k : κ) {d : D} {v : V} (h : Rep K φ H d v) :
    RepK K φ H (a.map fun kv => if kv.1 = k then (kv.1, d) else kv) (b.map fun kv => if kv.1 = k then (kv.1, v) else kv) := by
  induction r with
  | nil => exact .nil
  | @cons p q a b z _ ih =>
    refine .cons ?_ ih
    by_cases e : p.1 = k
    · have e' : q.1 = k := by rw [← z.1]; exact e
      simp only [if_pos e, if_pos e']
      exact ⟨z.1, h⟩
    · have e' : ¬ q.1 = k := by rw [← z.1]; exact e
      simp only [if_neg e, if_neg e']
      exact z
theorem Paired.app {α β : Type} {F : α → β → Prop} : ∀ {a : List α} {b : List β} {c : List α} {d : List β}, Paired F a b → Paired F c d → Paired F (a ++ c) (b ++ d)
  | _, _, _, _, .nil, h => h
  | _, _, _, _, .cons r t, h => .cons r (Paired.app t h)
theorem RepK.set {κ : Type} [DecidableEq κ] {a : List (κ × D)} {b : List (κ × V)} (r : RepK K φ H a b) (k : κ) {d : D} {v : V} (h : Rep K φ H d v) : RepK K φ H (setK a k d) (putK b k v) := by
  unfold setK putK
  rw [r.any k]
  split
  · exact r.map k h
  · exact Paired.app r (.cons ⟨rfl, h⟩ .nil)

/-- an object of the list-heap, at its address -/
inductive ObR (K : PySem.W.Frag) (φ : List Addr) (H : Hp) (a : Addr) : Ob → Prop
  | lst {xs : List D} {vs : List V} (h : H a = some (.lst vs)) (r : RepL K φ H xs vs) : ObR K φ H a (.lst xs)
  | dct {xs : List (Key × D)} {vs : List (Key × V)} (h : H a = some (.dK vs)) (r : RepK K φ H xs vs) : ObR K φ H a (.dct xs)
  | dtu {xs : List (List Key × D)} {vs : List (List Key × V)} (h : H a = some (.dT vs)) (r : RepK K φ H xs vs) : ObR K φ H a (.dtu xs)
structure HR (K : PySem.W.Frag) (φ : List Addr) (H : Hp) (h : Hm) : Prop where
  len : φ.length = h.length
  nd : φ.Nodup
  ob : ∀ (k : Nat) a o, φ[k]? = some a → h[k]? = some o → ObR K φ H a o
/-- later: ours may have changed, some have come; all else stands -/
structure Lat (φ : List Addr) (H : Hp) (φ' : List Addr) (H' : Hp) : Prop where
  pre : φ <+: φ'
  per : Per H H'
  keep : ∀ b o, H b = some o → b ∉ φ → H' b = some o
  fresh : ∀ b ∈ φ', b ∈ φ ∨ H b = none
theorem Lat.refl (φ : List Addr) (H : Hp) : Lat φ H φ H := ⟨List.prefix_refl _, Per.refl _, fun _ _ h _ => h, fun _ h => .inl h⟩
theorem Lat.out {b : Addr} {o : HO} (a : Lat φ H φ' H') (h : H b = some o) (n : b ∉ φ) : b ∉ φ' := fun m => by
  rcases a.fresh b m with z | z
  · exact n z
  · rw [h] at z; cases z
theorem Lat.trans {φ1 φ2 : List Addr} {H1 H2 : Hp} (a : Lat φ H φ1 H1) (b : Lat φ1 H1 φ2 H2) : Lat φ H φ2 H2 := by
  refine ⟨a.pre.trans b.pre, a.per.trans b.per, fun c o h n => b.keep c o (a.keep c o h n) (a.out h n), fun c m => ?_⟩
  rcases b.fresh c m with z | z
  · exact a.fresh c z
  · cases e : H c with
    | none => exact .inr rfl
    | some o =>
      by_cases n : c ∈ φ
      · exact .inl n
      · rw [a.keep c o e n] at z; cases z
theorem Lat.new {p : Addr} {v : HO} (e : H p = none) : Lat φ H φ (upd H p v) := ⟨List.prefix_refl _, Per.new e, fun b o h _ => by rw [upd_ne (ne_of_none h e)]; exact h, fun _ h => .inl h⟩
theorem Lat.wr {p : Addr} {u v : HO} (e : H p = some u) (m : mutO u = true) (i : p ∈ φ) : Lat φ H φ (upd H p v) :=
  ⟨List.prefix_refl _, Per.wr e m, fun b o h n => by rw [upd_ne (fun z => by subst z; exact n i)]; exact h, fun _ h => .inl h⟩
theorem ObR.tr {a : Addr} {o : Ob} (x : ObR K φ H a o) (p : φ <+: φ') (q : Per H H') (e : H' a = H a) : ObR K φ' H' a o := by
  cases x with
  | lst h r => exact .lst (e.trans h) (RepL.mono p q _ _ r)
  | dct h r => exact .dct (e.trans h) (r.mono p q)
  | dtu h r => exact .dtu (e.trans h) (r.mono p q)
theorem ObR.some {a : Addr} {o : Ob} (x : ObR K φ H a o) : ∃ u, H a = some u ∧ mutO u = true := by
  cases x with
  | lst h r => exact ⟨_, h, rfl⟩
  | dct h r => exact ⟨_, h, rfl⟩
  | dtu h r => exact ⟨_, h, rfl⟩
theorem HR.at {h : Hm} (x : HR K φ H h) {k : Nat} {a : Addr} (e : φ[k]? = some a) : ∃ o, h[k]? = some o ∧ ObR K φ H a o := by
  have lt : k < h.length := by rw [← x.len]; exact (List.getElem?_eq_some_iff.mp e).1
  exact ⟨h[k], List.getElem?_eq_getElem lt, x.ob k a _ e (List.getElem?_eq_getElem lt)⟩
/-- something new that is not tracked by us -/
theorem HR.new {h : Hm} (x : HR K φ H h) {p : Addr} {o : HO} (n : H p = none) : HR K φ (upd H p o) h := by
  refine ⟨x.len, x.nd, fun k a u e1 e2 => ?_⟩
  obtain ⟨w, hw, _⟩ := (x.ob k a u e1 e2).some
  exact (x.ob k a u e1 e2).tr (List.prefix_refl _) (Per.new n) (upd_ne (ne_of_none hw n))
theorem HR.add {h : Hm} (x : HR K φ H h) {p : Addr} {o : Ob} (n : p ∉ φ) (q : ObR K (φ ++ [p]) H p o) : HR K (φ ++ [p]) H (h ++ [o]) := by
  refine ⟨by simp [x.len], ?_, fun k a u e1 e2 => ?_⟩
  · rw [List.nodup_append]
    refine ⟨x.nd, by simp, fun a ha b hb => ?_⟩
    simp at hb
    subst hb
    exact fun e => n (e ▸ ha)
  · by_cases lt : k < h.length
    · rw [List.getElem?_append_left (by rw [x.len]; exact lt)] at e1
      rw [List.getElem?_append_left lt] at e2
      exact (x.ob k a u e1 e2).tr (List.prefix_append _ _) (Per.refl _) rfl
    · have hk : k = h.length := by
        have := (List.getElem?_eq_some_iff.mp e2).1
        simp at this
        omega
      subst hk
      rw [List.getElem?_append_right (by rw [x.len]; exact Nat.le_refl _)] at e1
      rw [List.getElem?_append_right (Nat.le_refl _)] at e2
      simp [x.len] at e1 e2
      subst e1; subst e2
      exact q
theorem HR.notin {h : Hm} (x : HR K φ H h) {p : Addr} (n : H p = none) : p ∉ φ := fun m => by
  obtain ⟨k, e⟩ := List.getElem?_of_mem m
  obtain ⟨o, _, q⟩ := x.at e
  obtain ⟨u, hu, _⟩ := q.some
  rw [n] at hu; cases hu
/-- one of ours is written -/
theorem HR.wr {h : Hm} (x : HR K φ H h) {k : Nat} {p : Addr} {o : Ob} {u : HO} (e : φ[k]? = some p) (q : ObR K φ (upd H p u) p o) : HR K φ (upd H p u) (h.set k o) := by
  obtain ⟨w, e2, hw⟩ := x.at e
  obtain ⟨v, hv, m⟩ := hw.some
  refine ⟨by simp [x.len], x.nd, fun j a y f1 f2 => ?_⟩
  by_cases hj : j = k
  · subst hj
    rw [e] at f1; cases f1
    rw [List.getElem?_set_self (by rw [← x.len]; exact (List.getElem?_eq_some_iff.mp e).1)] at f2
    cases f2
    exact q
  · rw [List.getElem?_set_ne (Ne.symm hj)] at f2
    have ne : a ≠ p := fun z => by
      subst z
      obtain ⟨l1, g1⟩ := List.getElem?_eq_some_iff.mp e
      obtain ⟨l2, g2⟩ := List.getElem?_eq_some_iff.mp f1
      exact hj ((List.getElem_inj x.nd).mp (g2.trans g1.symm))
    exact (x.ob j a y f1 f2).tr (List.prefix_refl _) (Per.wr hv m) (upd_ne ne)
theorem low_mem {κ : Type} {n : Nat} {kvs : List (κ × D)} (h : D.lowL n (kvs.map (·.2)) = true) : ∀ p ∈ kvs, D.low n p.2 = true := by
  induction kvs with
  | nil => intro p hp; cases hp
  | cons q r ih =>
    simp [D.lowL] at h
    intro p hp
    rcases List.mem_cons.mp hp with rfl | hp
    · exact h.1
    · exact ih h.2 p hp
theorem RepK.cut {κ : Type} {n : Nat} {a : List (κ × D)} {b : List (κ × V)} (r : RepK K φ H a b) (l : ∀ p ∈ a, D.low n p.2 = true) : RepK K (φ.take n) H a b := by
  induction r with
  | nil => exact .nil
  | @cons p q a b z _ ih => exact .cons ⟨z.1, Rep.cut n _ _ (l p List.mem_cons_self) z.2⟩ (ih fun p hp => l p (List.mem_cons_of_mem _ hp))
theorem ObR.cut {n : Nat} {a : Addr} {o : Ob} (x : ObR K φ H a o) (l : Ob.low n o = true) : ObR K (φ.take n) H a o := by
  cases x with
  | lst h r => exact .lst h (RepL.cut n _ _ l r)
  | dct h r => exact .dct h (r.cut (low_mem l))
  | dtu h r => exact .dtu h (r.cut (low_mem l))
end
end Y
end

section
set_option Elab.async false
set_option linter.all false
set_option maxRecDepth 100000
set_option maxHeartbeats 2000000
/-! YC: the judgements over Y, and the rules of expressions. -/
namespace Y
open PySem PySem.Spec PyProof.Rows L2

/-- fields of an exception -/
abbrev RepF (K : PySem.W.Frag) (φ : List Addr) (H : Hp) : List (Str × D) → List (Str × V) → Prop := Paired fun p q => p.1 = q.1 ∧ Rep K φ H p.2 q.2
/-- an exception: its class, its dict -/
def ER (K : PySem.W.Frag) (cl : Nat → Addr) (φ : List Addr) (H : Hp) (e : Exn) (c : Value) (d : Option Addr) : Prop :=
  (∃ C, c = .ref C ∧ PySem.W.nsIn K mainGlobals e.cls = some (some (.ref C))) ∧ ((e.fs = [] ∧ d = none) ∨ ∃ dd fs, d = some dd ∧ H dd = some (.xd fs) ∧ RepF K φ H e.fs fs)
structure SR (K : PySem.W.Frag) (φ : List Addr) (H : Hp) (st : Sl) (σ : L2.St) : Prop where
  len : st.length = σ.length
  get : ∀ (i : Nat) (d : D), st[i]? = some (some d) → ∃ v, σ[i]? = some (some v) ∧ Rep K φ H d v
section
variable {K : PySem.W.Frag} {cl : Nat → Addr} {φ φ' : List Addr} {H H' : Hp} {st : Sl} {σ : L2.St}
theorem SR.mono (x : SR K φ H st σ) (l : Lat φ H φ' H') : SR K φ' H' st σ :=
  ⟨x.len, fun i d e => let ⟨v, h1, h2⟩ := x.get i d e; ⟨v, h1, Rep.mono l.pre l.per _ _ h2⟩⟩
theorem SR.set (x : SR K φ H st σ) {d : D} {v : V} (i : Nat) (h : Rep K φ H d v) : SR K φ H (st.set i (some d)) (σ.set i (some v)) := by
  refine ⟨by simp [x.len], fun j c e => ?_⟩
  by_cases hj : j = i
  · subst hj
    have lt : j < st.length := by
      have := (List.getElem?_eq_some_iff.mp e).1
      simpa using this
    rw [List.getElem?_set_self lt] at e
    cases e
    exact ⟨v, List.getElem?_set_self (by rw [← x.len]; exact lt), h⟩
  · rw [List.getElem?_set_ne (Ne.symm hj)] at e
    rw [List.getElem?_set_ne (Ne.symm hj)]
    exact x.get j c e
theorem SR.off (x : SR K φ H st σ) (i : Nat) : SR K φ H (st.set i none) (σ.set i none) := by
  refine ⟨by simp [x.len], fun j c e => ?_⟩
  by_cases hj : j = i
  · subst hj
    have lt : j < st.length := by
      have := (List.getElem?_eq_some_iff.mp e).1
      simpa using this
    rw [List.getElem?_set_self lt] at e
    cases e
  · rw [List.getElem?_set_ne (Ne.symm hj)] at e
    rw [List.getElem?_set_ne (Ne.symm hj)]
    exact x.get j c e
theorem SR.unset (x : SR K φ H st σ) : ∀ vs : List Nat, SR K φ H (unset st vs) (wipe σ vs)
  | [] => x
  | v :: vs => (x.unset vs).off v

abbrev WE' := Value → Option Addr → Hp → Prop
/-- how a value stands: the heap at the start, ours, the heap -/
abbrev RT (α β : Type) := Hp → List Addr → Hp → α → β → Prop
/-- what stands so, from a later start, stands so from the elder one -/
class Back {α β : Type} (Rel : RT α β) : Prop where
  back : ∀ {H φ H1 φ1 φ' H' a b}, Lat φ H φ1 H1 → Lat φ1 H1 φ' H' → Rel H1 φ' H' a b → Rel H φ' H' a b
def RR (K : PySem.W.Frag) : RT D V := fun _ => Rep K
def RL (K : PySem.W.Frag) : RT (List D) (List V) := fun _ => RepL K
def RBool : RT Bool Bool := fun _ _ _ a b => a = b
/-- a list that was just made and that nobody holds -/
def Fresh (K : PySem.W.Frag) : RT (List D) V := fun H0 φ H ds v => ∃ p vs, v = .ref p ∧ H0 p = none ∧ p ∉ φ ∧ H p = some (.lst vs) ∧ RepL K φ H ds vs
instance : Back (RR K) := ⟨fun _ _ h => h⟩
instance : Back (RL K) := ⟨fun _ _ h => h⟩
instance : Back RBool := ⟨fun _ _ h => h⟩
theorem Lat.gone {p : Addr} (a : Lat φ H φ' H') (n : p ∉ φ') (h : H' p = none) : H p = none := by
  cases e : H p with
  | none => rfl
  | some o =>
    have m : p ∉ φ := fun m => n (let ⟨k, q⟩ := List.getElem?_of_mem m; List.mem_of_getElem? (pre_get a.pre q))
    rw [a.keep p o e m] at h; cases h
theorem pre_notin {p : Addr} (q : φ <+: φ') (n : p ∉ φ') : p ∉ φ := fun m => n (let ⟨_, z⟩ := List.getElem?_of_mem m; List.mem_of_getElem? (pre_get q z))
instance : Back (Fresh K) := ⟨fun l1 l2 ⟨p, vs, e, h0, n, h, r⟩ => ⟨p, vs, e, l1.gone (pre_notin l2.pre n) h0, n, h, r⟩⟩
def Post {α β : Type} (K : PySem.W.Frag) (cl : Nat → Addr) (φ : List Addr) (H : Hp) (Rel : RT α β) (r : Rs α) (Q : β → Hp → Prop) (We : WE') : Prop := match r with
  | .ok a h' => ∀ φ' H' b, Lat φ H φ' H' → HR K φ' H' h' → Rel H φ' H' a b → Q b H'
  | .ex e h' => ∀ φ' H' c d, Lat φ H φ' H' → HR K φ' H' h' → ER K cl φ' H' e c d → We c d H'
  | .bad => False
theorem Post.lat {α β : Type} {Rel : RT α β} [Back Rel] {r : Rs α} {Q : β → Hp → Prop} {We : WE'} (p : Post K cl φ H Rel r Q We) (l : Lat φ H φ' H') : Post K cl φ' H' Rel r Q We := by
  cases r with
  | ok a h => exact fun φ2 H2 b l2 x q => p φ2 H2 b (l.trans l2) x (Back.back l l2 q)
  | ex e h => exact fun φ2 H2 c d l2 => p φ2 H2 c d (l.trans l2)
  | bad => exact p
theorem Post.seq {α α' β β' : Type} {R1 : RT α β} {R2 : RT α' β'} [Back R2] {r : Rs α} {k : α → Hm → Rs α'} {Q1 : β → Hp → Prop} {Q2 : β' → Hp → Prop} {We : WE'} (p : Post K cl φ H R2 (r.bind k) Q2 We)
    (h : ∀ a h1 φ1 H1 b, Lat φ H φ1 H1 → HR K φ1 H1 h1 → R1 H φ1 H1 a b → Post K cl φ1 H1 R2 (k a h1) Q2 We → Q1 b H1) : Post K cl φ H R1 r Q1 We := by
  cases r with
  | ok a h0 => exact fun φ1 H1 b l x r => h a h0 φ1 H1 b l x r (Post.lat (show Post K cl φ H R2 (k a h0) Q2 We from p) l)
  | ex e h0 => exact p
  | bad => exact p
def tG {α β : Type} (K : PySem.W.Frag) (cl : Nat → Addr) (W : WX) (Rel : RT α β) (f : Sl → Hm → Rs α) : L2.St → Hp → (β → Hp → Prop) → Prop := fun σ H Q =>
  ∃ φ st h, SR K φ H st σ ∧ HR K φ H h ∧ Post K cl φ H Rel (f st h) Q fun c d H' => W c d σ H'
def PostS (K : PySem.W.Frag) (cl : Nat → Addr) (φ : List Addr) (H : Hp) (o : Out) (D : Ends) (W : WX) : Prop := match o with
  | .nx σ h' => ∀ φ' H' τ, Lat φ H φ' H' → HR K φ' H' h' → SR K φ' H' σ τ → D.nx τ H'
  | .bk σ h' => ∀ φ' H' τ, Lat φ H φ' H' → HR K φ' H' h' → SR K φ' H' σ τ → D.bk τ H'
  | .ct σ h' => ∀ φ' H' τ, Lat φ H φ' H' → HR K φ' H' h' → SR K φ' H' σ τ → D.ct τ H'
  | .rt d h' => ∀ φ' H' v, Lat φ H φ' H' → HR K φ' H' h' → Rep K φ' H' d v → D.rt v H'
  | .rl d h' => ∀ φ' H' v, Lat φ H φ' H' → HR K φ' H' h' → Fresh K H φ' H' d v → D.rt v H'
  | .ex e σ h' => ∀ φ' H' c d τ, Lat φ H φ' H' → HR K φ' H' h' → SR K φ' H' σ τ → ER K cl φ' H' e c d → W c d τ H'
  | .bad => False
theorem PostS.lat {o : Out} {D : Ends} {W : WX} (p : PostS K cl φ H o D W) (l : Lat φ H φ' H') : PostS K cl φ' H' o D W := by
  cases o with
  | nx _ _ => exact fun φ2 H2 b l2 => p φ2 H2 b (l.trans l2)
  | bk _ _ => exact fun φ2 H2 b l2 => p φ2 H2 b (l.trans l2)
  | ct _ _ => exact fun φ2 H2 b l2 => p φ2 H2 b (l.trans l2)
  | rt _ _ => exact fun φ2 H2 b l2 => p φ2 H2 b (l.trans l2)
  | rl _ _ => exact fun φ2 H2 b l2 x q => p φ2 H2 b (l.trans l2) x (Back.back l l2 q)
  | ex _ _ _ => exact fun φ2 H2 c d τ l2 => p φ2 H2 c d τ (l.trans l2)
  | bad => exact p
def tSt (K : PySem.W.Frag) (cl : Nat → Addr) (W : WX) (f : Sv) : TS := fun D σ H => ∃ φ st h, SR K φ H st σ ∧ HR K φ H h ∧ PostS K cl φ H (f st h) D W
end

abbrev SE (X : Cx) (cl : Nat → Addr) (W : WX) (e : Expr) (f : Ev) : Prop := PE X e (tG X.K cl W (RR X.K) f)
abbrev ST (X : Cx) (cl : Nat → Addr) (W : WX) (e : Expr) (f : Tv) : Prop := PT X e (tG X.K cl W RBool f)
abbrev SW (X : Cx) (cl : Nat → Addr) (W : WX) (e : Expr) (f : Tv) : Prop := PW X e (tG X.K cl W RBool f)
abbrev SA (X : Cx) (cl : Nat → Addr) (W : WX) (es : List Expr) (f : Av) : Prop := PA X es (tG X.K cl W (RL X.K) f)
abbrev SL (X : Cx) (cl : Nat → Addr) (W : WX) (e : Expr) (f : Lv) : Prop := PE X e (tG X.K cl W (Fresh X.K) f)
abbrev SS (X : Cx) (cl : Nat → Addr) (W : WX) (s : Stmt) (f : Sv) : Prop := PS X s (tSt X.K cl W f)
abbrev SSs (X : Cx) (cl : Nat → Addr) (W : WX) (s : List Stmt) (f : Sv) : Prop := PSs X s (tSt X.K cl W f)

section
variable {X : Cx} {cl : Nat → Addr} {W : WX} {e a b : Expr} {es : List Expr} {f g : Ev} {pos : Pos}
theorem PE.of {t t' : TE} (h : PE X e t) (i : ∀ σ H Q, t' σ H Q → t σ H Q) : PE X e t' := ⟨fun pins s σ H Q I q => h.run pins s σ H Q I (i σ H Q q)⟩
theorem PT.of {t t' : TT} (h : PT X e t) (i : ∀ σ H Q, t' σ H Q → t σ H Q) : PT X e t' := ⟨fun pins s σ H Q I q => h.run pins s σ H Q I (i σ H Q q)⟩
theorem PW.of {t t' : TT} (h : PW X e t) (i : ∀ σ H Q, t' σ H Q → t σ H Q) : PW X e t' := ⟨fun wh pins s σ H Q I q => h.run wh pins s σ H Q I (i σ H Q q)⟩
theorem PA.of {t t' : TA} (h : PA X es t) (i : ∀ σ H Q, t' σ H Q → t σ H Q) : PA X es t' := ⟨fun pos pins s σ H Q I q => h.run pos pins s σ H Q I (i σ H Q q)⟩
theorem PS.of {st : Stmt} {t t' : TS} (h : PS X st t) (i : ∀ D σ H, t' D σ H → t D σ H) : PS X st t' := ⟨fun pins s σ H D I q => h.run pins s σ H D I (i D σ H q)⟩
theorem PSs.of {st : List Stmt} {t t' : TS} (h : PSs X st t) (i : ∀ D σ H, t' D σ H → t D σ H) : PSs X st t' := ⟨fun pins s σ H D I q => h.run pins s σ H D I (i D σ H q)⟩
/-- two in a row, then a value without more -/
theorem seq2 {α β : Type} {σ : L2.St} {H : Hp} {Q : β → Hp → Prop} {Rel : RT α β} [Back Rel] {k : D → D → Hm → Rs α} {R : V → V → Hp → Prop}
    (p : tG X.K cl W Rel (fun σ h => (f σ h).bind fun x h1 => (g σ h1).bind fun y h2 => k x y h2) σ H Q)
    (h : ∀ φ H2 h2 x y v u, HR X.K φ H2 h2 → Rep X.K φ H2 x v → Rep X.K φ H2 y u → Post X.K cl φ H2 Rel (k x y h2) Q (fun c d H' => W c d σ H') → R v u H2) :
    tG X.K cl W (RR X.K) f σ H fun v H1 => tG X.K cl W (RR X.K) g σ H1 fun u H2 => R v u H2 := by
  obtain ⟨φ, st, h0, S, R0, P⟩ := p
  exact ⟨φ, st, h0, S, R0, P.seq fun x h1 φ1 H1 v l1 r1 q1 P1 => ⟨φ1, st, h1, S.mono l1, r1, P1.seq fun y h2 φ2 H2 u l2 r2 q2 P2 => h φ2 H2 h2 x y v u r2 (Rep.mono l2.pre l2.per _ _ q1) q2 P2⟩⟩
theorem seq1 {α β γ δ : Type} {R1 : RT γ δ} {f : Sl → Hm → Rs γ} {σ : L2.St} {H : Hp} {Q : β → Hp → Prop} {Rel : RT α β} [Back Rel] {k : γ → Hm → Rs α} {R : δ → Hp → Prop}
    (p : tG X.K cl W Rel (fun σ h => (f σ h).bind fun x h1 => k x h1) σ H Q)
    (h : ∀ φ H1 h1 x v, HR X.K φ H1 h1 → R1 H φ H1 x v → Post X.K cl φ H1 Rel (k x h1) Q (fun c d H' => W c d σ H') → R v H1) :
    tG X.K cl W R1 f σ H R := by
  obtain ⟨φ, st, h0, S, R0, P⟩ := p
  exact ⟨φ, st, h0, S, R0, P.seq fun x h1 φ1 H1 v l1 r1 q1 P1 => h φ1 H1 h1 x v r1 q1 P1⟩
/-- .. where the start matters -/
theorem seq0 {α β γ δ : Type} {R1 : RT γ δ} {f : Sl → Hm → Rs γ} {σ : L2.St} {H : Hp} {Q : β → Hp → Prop} {Rel : RT α β} [Back Rel] {k : γ → Hm → Rs α} {R : δ → Hp → Prop}
    (p : tG X.K cl W Rel (fun σ h => (f σ h).bind fun x h1 => k x h1) σ H Q)
    (h : ∀ φ0 φ H1 h1 x v, Lat φ0 H φ H1 → HR X.K φ H1 h1 → R1 H φ H1 x v → (∀ a h2, k x h1 = .ok a h2 → ∀ φ' H' b, Lat φ0 H φ' H' → HR X.K φ' H' h2 → Rel H φ' H' a b → Q b H') → (∃ a h2, k x h1 = .ok a h2) → R v H1) (hk : ∀ x h1, (∃ a h2, k x h1 = .ok a h2) ∨ k x h1 = .bad) :
    tG X.K cl W R1 f σ H R := by
  obtain ⟨φ, st, h0, S, R0, P⟩ := p
  refine ⟨φ, st, h0, S, R0, ?_⟩
  cases e : f st h0 with
  | bad => simp only [e, Rs.bind] at P; exact P
  | ex _ _ => simp only [e, Rs.bind] at P; exact P
  | ok x h1 =>
    simp only [e, Rs.bind] at P
    intro φ1 H1 v l1 r1 q1
    rcases hk x h1 with ⟨a, h2, e2⟩ | e2
    · refine h φ φ1 H1 h1 x v l1 r1 q1 (fun a' h2' e' => ?_) ⟨a, h2, e2⟩
      rw [e'] at P
      exact P
    · rw [e2] at P; exact P.elim
/-- what a Post of a given value says -/
theorem Post.val {α β : Type} {K : PySem.W.Frag} {φ : List Addr} {H : Hp} {Rel : RT α β} {a : α} {h : Hm} {Q : β → Hp → Prop} {We : WE'} (p : Post K cl φ H Rel (.ok a h) Q We) (r : HR K φ H h) {b : β} (q : Rel H φ H a b) : Q b H :=
  p φ H b (Lat.refl _ _) r q

/-! ### constants, names -/
theorem s_c {d : D} {v : V} (h : PE X e (L2.tC v)) (r : ∀ φ H, Rep X.K φ H d v) : SE X cl W e (eC d) := PE.of h fun σ H Q ⟨φ, st, h0, S, R, P⟩ => P.val R (r φ H)
theorem s_int {i j} : SE X cl W (.Constant (.int i) j pos) (eC (.int i)) := s_c pe_int fun _ _ => .int i
theorem s_str {x j} : SE X cl W (.Constant (.str x) j pos) (eC (.str x)) := s_c pe_str fun _ _ => .str x
theorem s_bl {x j} : SE X cl W (.Constant (.bool x) j pos) (eC (.bl x)) := s_c pe_bl fun _ _ => .bl x
theorem s_non {j} : SE X cl W (.Constant .none j pos) (eC .non) := s_c pe_non fun _ _ => .non
theorem s_v (i : Nat) {x : Str} (hN : X.N[i]? = some x := by rfl) (hv : Vis X.env.scope x := by first | exact Or.inl rfl | exact Or.inr (Or.inl rfl) | exact Or.inr (Or.inr rfl)) (hd : (x == ("__debug__" : Str)) = false := by decide)
    (hcd : (x == ("__classdict__" : Str)) = false := by decide) : SE X cl W (.Name x pos) (eV i) := PE.of (pe_var hN hv hd hcd) fun σ H Q ⟨φ, st, h0, S, R, P⟩ => by
  unfold eV at P
  cases e : st[i]? with
  | none => rw [e] at P; exact P.elim
  | some o =>
    cases o with
    | none => rw [e] at P; exact P.elim
    | some d =>
      rw [e] at P
      obtain ⟨v, h1, h2⟩ := S.get i d e
      exact ⟨v, h1, P.val R h2⟩

/-! ### operators, by values -/
/-- an operator's meaning -/
def OpY (X : Cx) (F : Value → Value → Sem Value) (o : Hm → D → D → Option D) : Prop := ∀ (cl : Nat → Addr) (We : WE') (Q : VK) (φ : List Addr) (H : Hp) (h : Hm) (x y : D) (v u : V),
  ∀ (pins : List (Addr × Obj)) (s : Shared) (σ : L2.St) (vv uu : Value), Inv X pins σ H s → RelV v vv → RelV u uu →
  HR X.K φ H h → Rep X.K φ H x v → Rep X.K φ H y u → Post X.K cl φ H (RR X.K) (ofO (o h x y) h) Q We → wpAny (model X.prog X.w) X.A (F vv uu) (EP X pins σ Q) X.xe s
/-- from a rule of HandS for one shape -/
theorem opY_of {F : Value → Value → Sem Value} {o : Hm → D → D → Option D}
    (h : ∀ (cl : Nat → Addr) (We : WE') (Q : VK) (φ : List Addr) (H : Hp) (h : Hm) (x y : D) (v u : V), HR X.K φ H h → Rep X.K φ H x v → Rep X.K φ H y u → Post X.K cl φ H (RR X.K) (ofO (o h x y) h) Q We → ∃ r, OpR X F r ∧ r v u H Q) : OpY X F o :=
  fun cl We Q φ H h0 x y v u pins s σ vv uu I rv ru R rx ry P => by
    obtain ⟨r, hr, q⟩ := h cl We Q φ H h0 x y v u R rx ry P
    exact hr pins s σ H v u vv uu Q I rv ru q
def tO2 (X : Cx) (cl : Nat → Addr) (W : WX) (o : Hm → D → D → Option D) (f g : Ev) : TE := tG X.K cl W (RR X.K) (e2 o f g)
theorem s_op {op : Operator} {o : Hm → D → D → Option D} (ho : OpY X (binaryOp op) o) (ha : SE X cl W a f) (hb : SE X cl W b g) : SE X cl W (.BinOp a op b pos) (e2 o f g) := by
  refine ⟨fun pins s σ H Q I p => ?_⟩
  refine wpAny_BinOp (bin ha hb I (seq2 (R := fun v u H2 => ∃ φ h x y, HR X.K φ H2 h ∧ Rep X.K φ H2 x v ∧ Rep X.K φ H2 y u ∧ Post X.K cl φ H2 (RR X.K) (ofO (o h x y) h) Q fun c d H' => W c d σ H') p
    fun φ H2 h2 x y v u r q1 q2 P2 => ⟨φ, h2, x, y, r, q1, q2, P2⟩) fun v u s2 x y H2 I2 rx ry q => ?_)
  obtain ⟨φ, h, dx, dy, r, q1, q2, P⟩ := q
  exact ho cl _ Q φ H2 h dx dy x y pins s2 σ v u I2 rx ry r q1 q2 P
theorem s_cmp {op : CmpOp} {o : Hm → D → D → Option D} (ho : OpY X (compareOp op) o) (ha : SE X cl W a f) (hb : SE X cl W b g) (hm : behindInMarks op b = false) : SE X cl W (.Compare a [op] [b] pos) (e2 o f g) := by
  refine ⟨fun pins s σ H Q I p => ?_⟩
  refine wpAny_Compare1 (bin ha hb I (seq2 (R := fun v u H2 => ∃ φ h x y, HR X.K φ H2 h ∧ Rep X.K φ H2 x v ∧ Rep X.K φ H2 y u ∧ Post X.K cl φ H2 (RR X.K) (ofO (o h x y) h) Q fun c d H' => W c d σ H') p
    fun φ H2 h2 x y v u r q1 q2 P2 => ⟨φ, h2, x, y, r, q1, q2, P2⟩) fun v u s2 x y H2 I2 rx ry q => ?_) hm
  obtain ⟨φ, h, dx, dy, r, q1, q2, P⟩ := q
  exact ho cl _ Q φ H2 h dx dy x y pins s2 σ v u I2 rx ry r q1 q2 P
/-- a test whose expression has a value that is a bool: a comparison -/
theorem t_cmp {op : CmpOp} {o : Hm → D → D → Option D} (ho : OpY X (compareOp op) o) (ha : SE X cl W a f) (hb : SE X cl W b g) (hm : behindInMarks op b = false) : ST X cl W (.Compare a [op] [b] pos) (tB (e2 o f g)) := by
  refine ⟨fun pins s σ H Q I p => ?_⟩
  have p' : tG X.K cl W (RR X.K) (e2 o f g) σ H fun x H1 => ∃ k, x = .bl k ∧ Q k H1 := by
    refine seq1 (k := fun x h1 => match x with | .bl b => .ok b h1 | _ => .bad) p fun φ H1 h1 x v r q P => ?_
    cases q with
    | bl b => exact ⟨b, rfl, P.val r rfl⟩
    | _ => exact P.elim
  refine wpAny_isTrue_Compare1 (bin ha hb I (seq2 (R := fun v u H2 => ∃ φ h x y, HR X.K φ H2 h ∧ Rep X.K φ H2 x v ∧ Rep X.K φ H2 y u ∧ Post X.K cl φ H2 (RR X.K) (ofO (o h x y) h) (fun x H1 => ∃ k, x = .bl k ∧ Q k H1) fun c d H' => W c d σ H') p'
    fun φ H2 h2 x y v u r q1 q2 P2 => ⟨φ, h2, x, y, r, q1, q2, P2⟩) fun v u s2 x y H2 I2 rx ry q => ?_) hm
  obtain ⟨φ, h, dx, dy, r, q1, q2, P⟩ := q
  refine thn (ho cl _ _ φ H2 h dx dy x y pins s2 σ v u I2 rx ry r q1 q2 P) fun w s3 ⟨y3, H3, I3, r3, k, e3, q3⟩ => ?_
  subst e3
  obtain rfl : w = Value.bool k := r3
  exact wpAny_truthy_bool ⟨H3, I3, q3⟩
theorem t_val (h : SE X cl W e f) (he : ∀ whole, isTrue e X.env whole = (do let v ← whole; standAt e.pos; holding [v] (truthy v)) := by intro _; rfl) : ST X cl W e (tB f) := by
  refine PT.of (pt_val h he) fun σ H Q p => ?_
  refine seq1 (k := fun x h1 => match x with | .bl b => .ok b h1 | _ => .bad) p fun φ H1 h1 x v r q P => ?_
  cases q with
  | bl b => exact ⟨b, rfl, P.val r rfl⟩
  | _ => exact P.elim
end
end Y
end

section
set_option Elab.async false
set_option linter.all false
set_option maxRecDepth 100000
set_option maxHeartbeats 2000000
/-! YD: operators, places, built-in calls. -/
namespace Y
open PySem PySem.Spec PyProof.Rows L2

/-- what a rule of Y wants of the context -/
structure Cs (k : Nat) (X : Cx) : Prop where
  room : Room k X.A
  gd : X.A.guards = some []
  calm : X.calm = true
  nd : X.N.Nodup
theorem Cs.mono {j k : Nat} {X : Cx} (c : Cs k X) (h : j ≤ k) : Cs j X := ⟨c.room.mono h, c.gd, c.calm, c.nd⟩
theorem Cs.hu {k : Nat} {X : Cx} (c : Cs k X) : X.A.units + 1 < cLine := hu_of c.room

/-! ### a list is frozen: the ghost step -/
section
variable {X : Cx} {pins : List (Addr × Obj)} {σ : L2.St} {H : Hp} {s : Shared} {p : Addr} {vs : List V}
theorem inv_frz (I : L2.Inv X pins σ H s) (h : H p = some (.lst vs)) : ∃ o, L2.Inv X pins σ (upd H p (.frz o (.lst vs))) s := by
  have okp := I.hok p _ h
  obtain ⟨hz, its, n, rv, hg⟩ := okp
  refine ⟨_, I.un (t' := s.toks) (h' := s.heap) (H' := upd H p (.frz { cls := .type "list", data := .seq its.toArray n } (.lst vs))) ⟨fun b o e _ _ _ => e, fun b o e _ _ _ => ⟨o.slots, e⟩, fun b o _ e _ => ?_, fun b o e _ => ⟨o, e⟩, fun b xs e => ?_, fun b o u e => ?_, fun b ps e => ⟨#[], ?_⟩⟩ fun b o e => ?_⟩
  · rw [upd_ne (fun z => by rw [z, h] at e; cases e)]; exact e
  · rw [upd_ne (fun z => by rw [z, h] at e; cases e)]; exact e
  · rw [upd_ne (fun z => by rw [z, h] at e; cases e)]; exact e
  · rw [upd_ne (fun z => by rw [z, h] at e; cases e), e]; simp
  · by_cases hb : b = p
    · subst hb
      rw [upd_same] at e
      cases e
      exact ⟨hg, hz, its, n, rv, hg⟩
    · rw [upd_ne hb] at e
      refine (I.hok b o e).stay (fun _ _ _ q => q) (fun c q => ?_) fun c xs q => ?_
      · rw [upd_ne (fun z => by rw [z, h] at q; cases q)]; exact q
      · rw [upd_ne (fun z => by rw [z, h] at q; cases q)]; exact q
end
section
variable {K : PySem.W.Frag} {φ : List Addr} {H : Hp} {h : Hm}
theorem HR.out (x : HR K φ H h) {p : Addr} {u v : HO} (n : p ∉ φ) (e : H p = some u) (m : mutO u = true) : HR K φ (upd H p v) h := by
  refine ⟨x.len, x.nd, fun k a o e1 e2 => ?_⟩
  refine (x.ob k a o e1 e2).tr (List.prefix_refl _) (Per.wr e m) (upd_ne fun z => n ?_)
  subst z
  exact List.mem_of_getElem? e1
/-- fresh, then frozen -/
theorem Fresh.frz {φ0 : List Addr} {H0 : Hp} {ds : List D} {p : Addr} {vs : List V} {o : Obj} (l : Lat φ0 H0 φ H) (h0 : H0 p = none) (x : HR K φ H h) (n : p ∉ φ) (e : H p = some (.lst vs)) (r : RepL K φ H ds vs) :
    Lat φ0 H0 φ (upd H p (.frz o (.lst vs))) ∧ HR K φ (upd H p (.frz o (.lst vs))) h ∧ Rep K φ (upd H p (.frz o (.lst vs))) (.fl ds) (.ref p) :=
  ⟨⟨l.pre, l.per.trans (Per.wr e rfl), fun b u q m => by rw [upd_ne (ne_of_none q h0)]; exact l.keep b u q m, l.fresh⟩, x.out n e rfl, .fl upd_same (RepL.mono (List.prefix_refl _) (Per.wr e rfl) _ _ r)⟩
/-- fresh, then one of ours -/
theorem Fresh.mut {φ0 : List Addr} {H0 : Hp} {ds : List D} {p : Addr} {vs : List V} (l : Lat φ0 H0 φ H) (h0 : H0 p = none) (x : HR K φ H h) (n : p ∉ φ) (e : H p = some (.lst vs)) (r : RepL K φ H ds vs) :
    Lat φ0 H0 (φ ++ [p]) H ∧ HR K (φ ++ [p]) H (h ++ [.lst ds]) ∧ Rep K (φ ++ [p]) H (.loc h.length) (.ref p) := by
  refine ⟨⟨l.pre.trans (List.prefix_append _ _), l.per, l.keep, fun b m => ?_⟩, x.add n (.lst e (RepL.mono (List.prefix_append _ _) (Per.refl _) _ _ r)), .loc ?_⟩
  · rcases List.mem_append.mp m with m | m
    · exact l.fresh b m
    · simp at m
      subst m
      exact .inr h0
  rw [List.getElem?_append_right (by rw [x.len]; exact Nat.le_refl _)]
  simp [x.len]
end

section
variable {X : Cx} {cl : Nat → Addr} {W : WX} {e a b c : Expr} {es : List Expr} {f g k : Ev} {fl : Lv} {pos : Pos}
theorem s_frz (h : SL X cl W e fl) : SE X cl W e (eFrz fl) := by
  refine ⟨fun pins s σ H Q I p => ?_⟩
  refine thn (h.run pins s σ H (fun v H1 => ∃ p vs, v = .ref p ∧ H1 p = some (.lst vs) ∧ ∀ o, Q v (upd H1 p (.frz o (.lst vs)))) I
    (seq0 (R1 := Fresh X.K) (k := fun xs h1 => Rs.ok (D.fl xs) h1) p (fun φ0 φ H1 h1 ds v l r q P _ => ?_) fun _ _ => .inl ⟨_, _, rfl⟩)) fun u s1 ⟨v, H1, I1, rv, p, vs, e1, e2, q⟩ => ?_
  · obtain ⟨p, vs, rfl, h0, n, e, rr⟩ := q
    refine ⟨p, vs, rfl, e, fun o => ?_⟩
    obtain ⟨l, x, y⟩ := Fresh.frz (o := o) l h0 r n e rr
    exact P _ _ rfl φ _ _ l x y
  · subst e1
    obtain ⟨o, I2⟩ := inv_frz I1 e2
    exact ⟨_, _, I2, rv, q o⟩
theorem s_mut (h : SL X cl W e fl) : SE X cl W e (eMut fl) := PE.of h fun σ H Q p =>
  seq0 (R1 := Fresh X.K) (k := fun xs h1 => Rs.ok (D.loc h1.length) (h1 ++ [Ob.lst xs])) p (fun φ0 φ H1 h1 ds v l r q P _ => by
    obtain ⟨p, vs, rfl, h0, n, e, rr⟩ := q
    obtain ⟨l, x, y⟩ := Fresh.mut l h0 r n e rr
    exact P _ _ rfl _ _ _ l x y) fun _ _ => .inl ⟨_, _, rfl⟩

/-! ### operators -/
theorem line_eq : line = sizeLine := by rw [sizeLine_eq]; rfl
/-- the rule of HandS that a meaning gives -/
def rY (K : PySem.W.Frag) (o : Hm → D → D → Option D) : R2 := fun v u H Q => ∃ (cl : Nat → Addr) (We : WE') (φ : List Addr) (h : Hm) (x y : D), HR K φ H h ∧ Rep K φ H x v ∧ Rep K φ H y u ∧ Post K cl φ H (RR K) (ofO (o h x y) h) Q We
theorem OpY.r {F : Value → Value → Sem Value} {o : Hm → D → D → Option D} (h : OpY X F o) : OpR X F (rY X.K o) := fun pins s σ H x y v u Q I rx ry ⟨cl, We, φ, hh, dx, dy, R, q1, q2, P⟩ =>
  h cl We Q φ H hh dx dy x y pins s σ v u I rx ry R q1 q2 P
/-- an operator whose result is plain -/
theorem opY1 {F : Value → Value → Sem Value} {o : Hm → D → D → Option D}
    (h : ∀ (Q : VK) (φ : List Addr) (H : Hp) (h : Hm) (x y : D) (v u : V) (z : D), HR X.K φ H h → Rep X.K φ H x v → Rep X.K φ H y u → o h x y = some z → (∀ w, Rep X.K φ H z w → Q w H) → ∃ r, OpR X F r ∧ r v u H Q) : OpY X F o :=
  opY_of fun cl We Q φ H h0 x y v u R rx ry P => by
    cases e : o h0 x y with
    | none => rw [e] at P; exact P.elim
    | some z =>
      rw [e] at P
      exact h Q φ H h0 x y v u z R rx ry e fun w hw => P.val R hw
theorem y_sub : OpY X (binaryOp .Sub) oSub := opY1 fun Q φ H h x y v u z R rx ry e q => by
  cases rx <;> cases ry <;> simp [oSub] at e
  subst e
  exact ⟨_, op_sub, _, _, rfl, rfl, q _ (.int _)⟩
theorem big_eq : big = 2 ^ 64 := by decide
theorem y_mul : OpY X (binaryOp .Mult) oMul := opY1 fun Q φ H h x y v u z R rx ry e q => by
  cases rx <;> cases ry <;> simp [oMul] at e
  obtain ⟨c, rfl⟩ := e
  refine ⟨_, op_mul, _, _, rfl, rfl, ?_, q _ (.int _)⟩
  simp only [mulOk, Bool.or_eq_true, Bool.and_eq_true, decide_eq_true_eq, big_eq] at c
  exact c
theorem y_div : OpY X (binaryOp .FloorDiv) oDiv := opY1 fun Q φ H h x y v u z R rx ry e q => by
  cases rx <;> cases ry <;> simp only [oDiv] at e <;> try (cases e; done)
  split at e
  · rename_i c
    cases e
    exact ⟨_, op_fdiv, _, _, rfl, rfl, c, q _ (.int _)⟩
  · split at e
    · rename_i c
      cases e
      exact ⟨_, op_fdivN, _, _, rfl, rfl, ⟨by omega, by omega⟩, q _ (.int _)⟩
    · cases e
theorem y_mod : OpY X (binaryOp .Mod) oMod := opY1 fun Q φ H h x y v u z R rx ry e q => by
  cases rx <;> cases ry <;> simp only [oMod] at e <;> try (cases e; done)
  split at e
  · rename_i c
    cases e
    exact ⟨_, op_mod, _, _, rfl, rfl, c, q _ (.int _)⟩
  · split at e
    · rename_i c
      cases e
      exact ⟨_, op_modN, _, _, rfl, rfl, by omega, q _ (.int _)⟩
    · cases e
theorem y_pow : OpY X (binaryOp .Pow) oPow := opY1 fun Q φ H h x y v u z R rx ry e q => by
  cases rx <;> cases ry <;> simp only [oPow] at e <;> try (cases e; done)
  split at e
  · rename_i c
    cases e
    refine ⟨_, op_pow, _, _, rfl, rfl, ⟨c.1, c.2.1, ?_⟩, q _ (.int _)⟩
    have h1 := c.2.2.1
    have h2 := c.2.2.2
    rw [big_eq] at h1 h2
    omega
  · cases e
/-- the list that stands there, ours or frozen -/
theorem own_at {φ : List Addr} {H : Hp} {h : Hm} (R : HR X.K φ H h) {x : D} {v : V} (rx : Rep X.K φ H x v) {xs : List D} (e : ownL h x = some xs) : ∃ a vs, v = .ref a ∧ Rd H a (.lst vs) ∧ RepL X.K φ H xs vs := by
  cases rx <;> simp only [ownL] at e <;> try (cases e; done)
  case fl a o ds vs hf r => cases e; exact ⟨a, vs, rfl, .inr ⟨o, hf⟩, r⟩
  case loc k a hk =>
    obtain ⟨ob, h1, h2⟩ := R.at hk
    rw [h1] at e
    cases ob <;> simp at e
    subst e
    cases h2 with
    | lst hh r => exact ⟨a, _, rfl, .inl hh, r⟩
theorem lst_at {φ : List Addr} {H : Hp} {h : Hm} (R : HR X.K φ H h) {x : D} {v : V} (rx : Rep X.K φ H x v) {xs : List D} (e : lstOf h x = some xs) : ∃ a vs, v = .ref a ∧ SqL X.K H a vs ∧ RepL X.K φ H xs vs := by
  cases rx <;> simp only [lstOf] at e <;> try (cases e; done)
  case fl a o ds vs hf r => cases e; exact ⟨a, vs, rfl, .inl (.inr ⟨o, hf⟩), r⟩
  case sq a ds vs hf r => cases e; exact ⟨a, vs, rfl, hf.sq, r⟩
  case loc k a hk =>
    obtain ⟨ob, h1, h2⟩ := R.at hk
    rw [h1] at e
    cases ob <;> simp at e
    subst e
    cases h2 with
    | lst hh r => exact ⟨a, _, rfl, .of hh, r⟩
/-- list + list, each ours or frozen -/
def rCatR : R2 := fun x y H Q => ∃ l b xs zs, x = .ref l ∧ y = .ref b ∧ Rd H l (.lst xs) ∧ Rd H b (.lst zs) ∧ xs.length + zs.length ≤ sizeLine ∧ ∀ p, H p = none → Q (.ref p) (upd H p (.lst (xs ++ zs)))
theorem op_catR : OpR X (binaryOp .Add) rCatR := fun pins s σ H x y v u Q I rx ry h => by
  obtain ⟨l, b, xs, zs, rfl, rfl, h1, h2, hz, q⟩ := h
  cases rx
  cases ry
  obtain ⟨z1, i1, n1, r1, e1⟩ := h1.ok I.hok
  obtain ⟨z2, i2, n2, r2, e2⟩ := h2.ok I.hok
  have l1 := r1.length
  have l2 := r2.length
  refine PySem.P.add_list e1 e2 ?_ (by rw [List.size_toArray, List.size_toArray]; omega)
  rw [show i1.toArray ++ i2.toArray = (i1 ++ i2).toArray by simp]
  exact ⟨.ref _, _, I.lnew (t' := s.toks) (r1.append r2) (by rw [List.length_append]; omega), rfl, q _ I.fresh⟩
theorem y_add : OpY X (binaryOp .Add) oAdd := by
  intro cl We Q φ H h x y v u pins s σ vv uu I rv ru R rx ry P
  cases e : oAdd h x y with
  | none => rw [e] at P; exact P.elim
  | some z =>
    rw [e] at P
    have lists : ∀ xs ys, ownL h x = some xs → ownL h y = some ys → xs.length + ys.length ≤ line → z = .fl (xs ++ ys) → wpAny (model X.prog X.w) X.A (binaryOp .Add vv uu) (EP X pins σ Q) X.xe s := by
      intro xs ys e1 e2 hz ez
      subst ez
      obtain ⟨l, vs, rfl, h1, q1⟩ := own_at R rx e1
      obtain ⟨b, us, rfl, h2, q2⟩ := own_at R ry e2
      refine thn (op_catR pins s σ H _ _ vv uu (fun v H1 => ∃ p, v = .ref p ∧ H p = none ∧ H1 = upd H p (.lst (vs ++ us))) I rv ru ⟨l, b, vs, us, rfl, rfl, h1, h2, by rw [← q1.length, ← q2.length, ← line_eq]; exact hz, fun p hp => ⟨p, rfl, hp, rfl⟩⟩) fun w s1 ⟨w1, H1, I1, rw1, p, e1, hp, e3⟩ => ?_
      subst e1; subst e3
      obtain ⟨o, I2⟩ := inv_frz I1 upd_same
      have R1 : HR X.K φ (upd H p (.lst (vs ++ us))) h := R.new hp
      have rr : RepL X.K φ (upd H p (.lst (vs ++ us))) (xs ++ ys) (vs ++ us) := RepL.mono (List.prefix_refl _) (Per.new hp) _ _ (q1.append q2)
      obtain ⟨l1, x1, y1⟩ := Fresh.frz (o := o) (Lat.new hp) hp R1 (R.notin hp) upd_same rr
      exact ⟨_, _, I2, rw1, P φ _ _ l1 x1 y1⟩
    have gen : (match ownL h x, ownL h y with | some xs, some ys => if xs.length + ys.length ≤ line then some (D.fl (xs ++ ys)) else none | _, _ => none) = some z → wpAny (model X.prog X.w) X.A (binaryOp .Add vv uu) (EP X pins σ Q) X.xe s := by
      intro e
      cases e1 : ownL h x with
      | none => rw [e1] at e; cases e
      | some xs =>
        cases e2 : ownL h y with
        | none => rw [e1, e2] at e; cases e
        | some ys =>
          rw [e1, e2] at e
          simp only at e
          split at e
          · exact lists xs ys e1 e2 (by assumption) (Option.some.inj e).symm
          · cases e
    cases rx <;> cases ry <;> first
      | (simp only [oAdd] at e; exact gen e)
      | skip
    · simp [oAdd] at e
      subst e
      exact op_add pins s σ H _ _ vv uu Q I rv ru ⟨_, _, rfl, rfl, P.val R (.int _)⟩
    · simp only [oAdd] at e
      split at e
      · cases e
        exact op_add_str pins s σ H _ _ vv uu Q I rv ru ⟨_, _, rfl, rfl, by rw [← line_eq]; assumption, P.val R (.str _)⟩
      · cases e
    · rename_i a1 d1 v1 h1 r1 a2 d2 v2 h2 r2
      simp only [oAdd] at e
      split at e
      · rename_i hz
        cases e
        refine op_catA pins s σ H _ _ vv uu Q I rv ru ⟨a1, a2, v1, v2, rfl, rfl, SqT.of h1, SqT.of h2, by rw [← r1.length, ← r2.length, ← line_eq]; exact hz, fun z => ?_, fun _ z => ?_, fun _ _ p hp => ?_⟩
        · obtain rfl := r1.nil_iff.mpr z
          exact P.val R (.tup h2 r2)
        · obtain rfl := r2.nil_iff.mpr z
          rw [List.append_nil] at P
          exact P.val R (.tup h1 r1)
        · refine P φ _ _ (Lat.new hp) (R.new hp) (.tup upd_same (RepL.mono (List.prefix_refl _) (Per.new hp) _ _ (r1.append r2)))
      · cases e
end
end Y
end

section
set_option Elab.async false
set_option linter.all false
set_option maxRecDepth 100000
set_option maxHeartbeats 2000000
/-! YE: comparisons, tests, displays, places, built-ins. -/
namespace Y
open PySem PySem.Spec PyProof.Rows L2

section
variable {K : PySem.W.Frag} {φ : List Addr} {H : Hp} {h : Hm}
mutual
theorem Rep.dp : ∀ (d : D) (v : V) (p : PyData), py h d = some p → Rep K φ H d v → Dp K H v p
  | .non, _, _, e, r => by cases r; simp [py] at e; subst e; exact .non
  | .bl _, _, _, e, r => by cases r; simp [py] at e; subst e; exact .bl _
  | .int _, _, _, e, r => by cases r; simp [py] at e; subst e; exact .int _
  | .str _, _, _, e, r => by cases r; simp [py] at e; subst e; exact .str _
  | .tup ds, _, _, e, r => by
    simp [py] at e
    obtain ⟨a, ha, rfl⟩ := e
    cases r with
    | tup h r => exact .tup (SqT.of h) (RepL.dp ds _ _ ha r)
  | .fl ds, _, _, e, r => by
    simp [py] at e
    obtain ⟨a, ha, rfl⟩ := e
    cases r with
    | fl h r => exact .lst (.inl (.inr ⟨_, h⟩)) (RepL.dp ds _ _ ha r)
  | .sq ds, _, _, e, r => by
    simp [py] at e
    obtain ⟨a, ha, rfl⟩ := e
    cases r with
    | sq h r => exact .lst h.sq (RepL.dp ds _ _ ha r)
  | .loc _, _, _, e, _ => by simp [py] at e
theorem RepL.dp : ∀ (d : List D) (v : List V) (p : List PyData), pyL h d = some p → RepL K φ H d v → DpAll K H v p
  | [], _, _, e, r => by cases r; simp [pyL] at e; subst e; exact .nil
  | d :: ds, _, _, e, r => by
    cases r with
    | cons q r =>
      simp only [pyL] at e
      cases e1 : py h d with
      | none => rw [e1] at e; cases e
      | some a =>
        cases e2 : pyL h ds with
        | none => rw [e1, e2] at e; cases e
        | some b =>
          rw [e1, e2] at e
          cases e
          exact .cons (Rep.dp d _ a e1 q) (RepL.dp ds _ b e2 r)
end
end

section
variable {X : Cx} {k : Nat}
theorem dec_bool {P Q : Prop} [Decidable P] [Decidable Q] (h : P ↔ Q) : decide P = decide Q := by
  by_cases p : P
  · rw [decide_eq_true p, decide_eq_true (h.mp p)]
  · rw [decide_eq_false p, decide_eq_false fun q => p (h.mpr q)]
def EqOk (X : Cx) (H : Hp) (v u : V) (b : Bool) : Prop :=
    (∀ Q : VK, Q (.bl b) H → ∃ r, OpR X (compareOp .Eq) r ∧ r v u H Q) ∧ ∀ Q : VK, Q (.bl (!b)) H → ∃ r, OpR X (compareOp .NotEq) r ∧ r v u H Q
theorem eqD_sound (c : Cs k X) {φ : List Addr} {H : Hp} {h : Hm} {x y : D} {v u : V} {b : Bool} (rx : Rep X.K φ H x v) (ry : Rep X.K φ H y u) (e : eqD h x y = some b) : EqOk X H v u b := by
  have gen : (match py h x, py h y with | some a, some b => if SeqAt.shaped a && SeqAt.shaped b then some (PyData.eqv a b) else none | _, _ => none) = some b → EqOk X H v u b := by
    intro e
    cases e1 : py h x with
    | none => rw [e1] at e; cases e
    | some a =>
      cases e2 : py h y with
      | none => rw [e1, e2] at e; cases e
      | some d =>
        rw [e1, e2] at e
        simp only at e
        split at e
        · rename_i hs
          cases e
          rw [Bool.and_eq_true] at hs
          have d1 := Rep.dp x v a e1 rx
          have d2 := Rep.dp y u d e2 ry
          exact ⟨fun Q q => ⟨_, op_eqD c.room.units, a, d, d1, d2, hs.1, hs.2, q⟩, fun Q q => ⟨_, op_neD c.room.units, a, d, d1, d2, hs.1, hs.2, q⟩⟩
        · cases e
  cases rx <;> cases ry <;> first
    | (simp only [eqD] at e; exact gen e)
    | (simp only [eqD] at e
       cases e
       refine ⟨fun Q q => ⟨_, op_eq, rfl, ?_⟩, fun Q q => ⟨_, op_ne, rfl, ?_⟩⟩ <;>
       (simpa using q))
theorem y_eq (c : Cs k X) : OpY X (compareOp .Eq) oEq := opY1 fun Q φ H h x y v u z R rx ry e q => by
  simp only [oEq, Option.map_eq_some_iff] at e
  obtain ⟨b, e, rfl⟩ := e
  exact (eqD_sound c rx ry e).1 Q (q _ (.bl b))
theorem y_ne (c : Cs k X) : OpY X (compareOp .NotEq) oNe := opY1 fun Q φ H h x y v u z R rx ry e q => by
  simp only [oNe, Option.map_eq_some_iff] at e
  obtain ⟨b, e, rfl⟩ := e
  exact (eqD_sound c rx ry e).2 Q (q _ (.bl (!b)))
theorem y_lt (c : Cs k X) : OpY X (compareOp .Lt) oLt := opY1 fun Q φ H h x y v u z R rx ry e q => by
  cases rx <;> cases ry <;> simp only [oLt] at e <;> try (cases e; done)
  · cases e
    exact ⟨_, op_lt, _, _, rfl, rfl, q _ (.bl _)⟩
  · rename_i a1 d1 v1 h1 r1 a2 d2 v2 h2 r2
    cases e1 : intsOf d1 with
    | none => rw [e1] at e; cases e
    | some ns =>
      cases e2 : intsOf d2 with
      | none => rw [e1, e2] at e; cases e
      | some ms =>
        rw [e1, e2] at e
        cases e
        rw [r1.intsOf e1] at h1
        rw [r2.intsOf e2] at h2
        exact ⟨_, op_ltT c.room.units0, a1, a2, ns, ms, rfl, rfl, SqT.of h1, SqT.of h2, q _ (.bl _)⟩
theorem y_le : OpY X (compareOp .LtE) oLe := opY1 fun Q φ H h x y v u z R rx ry e q => by
  cases rx <;> cases ry <;> simp only [oLe] at e <;> try (cases e; done)
  cases e
  exact ⟨_, op_le, _, _, rfl, rfl, q _ (.bl _)⟩
theorem y_gt : OpY X (compareOp .Gt) oGt := opY1 fun Q φ H h x y v u z R rx ry e q => by
  cases rx <;> cases ry <;> simp only [oGt] at e <;> try (cases e; done)
  cases e
  exact ⟨_, op_gt, _, _, rfl, rfl, q _ (.bl _)⟩
theorem y_ge : OpY X (compareOp .GtE) oGe := opY1 fun Q φ H h x y v u z R rx ry e q => by
  cases rx <;> cases ry <;> simp only [oGe] at e <;> try (cases e; done)
  cases e
  exact ⟨_, op_ge, _, _, rfl, rfl, q _ (.bl _)⟩
theorem isN_of {φ : List Addr} {H : Hp} {x : D} {v : V} (r : Rep X.K φ H x v) : isN x = decide (v = .non) := by cases r <;> simp [isN]
theorem y_is : OpY X (compareOp .Is) oIs := opY1 fun Q φ H h x y v u z R rx ry e q => by
  have n := isN_of rx
  cases ry <;> simp only [oIs] at e
  case non =>
    cases e
    refine ⟨_, op_isN, rfl, ?_⟩
    rw [← n]
    exact q _ (.bl _)
  case bl b =>
    cases rx <;> simp at e
    subst e
    exact ⟨_, op_isBl, _, _, rfl, rfl, q _ (.bl _)⟩
  all_goals (cases x <;> cases e)
theorem y_isNot : OpY X (compareOp .IsNot) oIsNot := opY1 fun Q φ H h x y v u z R rx ry e q => by
  have n := isN_of rx
  cases ry <;> simp only [oIsNot] at e
  case non =>
    cases e
    refine ⟨_, op_notN, rfl, ?_⟩
    rw [← n]
    exact q _ (.bl _)
  case bl b =>
    cases rx <;> simp at e
    subst e
    exact ⟨_, op_notBl, _, _, rfl, rfl, q _ (.bl _)⟩
  all_goals (cases x <;> cases e)
end

section
variable {X : Cx} {cl : Nat → Addr} {W : WX} {e a b c : Expr} {es : List Expr} {f g q : Ev} {fa : Av} {t t' : Tv} {pos : Pos} {k : Nat}
/-! ### one operand -/
theorem s_neg (ha : SE X cl W a f) : SE X cl W (.UnaryOp .USub a pos) (e1 uNeg f) := PE.of (pe_un un_neg ha) fun σ H Q p =>
  seq1 (k := fun x h1 => ofO (uNeg h1 x) h1) p fun φ H1 h1 x v r q P => by
    cases q <;> first | exact P.elim | exact ⟨_, rfl, P.val r (.int _)⟩
theorem s_not (ha : SE X cl W a f) : SE X cl W (.UnaryOp .Not a pos) (e1 uNot f) := PE.of (pe_not ha) fun σ H Q p =>
  seq1 (k := fun x h1 => ofO (uNot h1 x) h1) p fun φ H1 h1 x v r q P => by
    cases q <;> first | exact P.elim | exact ⟨_, rfl, P.val r (.bl _)⟩
/-! ### and, or, if as values -/
theorem tG.later {α β : Type} {K : PySem.W.Frag} {Rel : RT α β} {f : Sl → Hm → Rs α} {φ : List Addr} {st : Sl} {σ : L2.St} {H : Hp} {h : Hm} {Q : β → Hp → Prop} (S : SR K φ H st σ) (R : HR K φ H h) (P : Post K cl φ H Rel (f st h) Q fun c d H' => W c d σ H') : tG K cl W Rel f σ H Q := ⟨φ, st, h, S, R, P⟩
/-- an evaluation, then what hangs on it, the slots at hand -/
theorem seqS {α β γ δ : Type} {R1 : RT γ δ} {f : Sl → Hm → Rs γ} {σ : L2.St} {H : Hp} {Q : β → Hp → Prop} {Rel : RT α β} [Back Rel] {k : Sl → γ → Hm → Rs α} {R : δ → Hp → Prop}
    (p : tG X.K cl W Rel (fun σ h => (f σ h).bind fun x h1 => k σ x h1) σ H Q)
    (h : ∀ φ st H1 h1 x v, SR X.K φ H1 st σ → HR X.K φ H1 h1 → R1 H φ H1 x v → Post X.K cl φ H1 Rel (k st x h1) Q (fun c d H' => W c d σ H') → R v H1) :
    tG X.K cl W R1 f σ H R := by
  obtain ⟨φ, st, h0, S, R0, P⟩ := p
  exact ⟨φ, st, h0, S, R0, P.seq fun x h1 φ1 H1 v l1 r1 q1 P1 => h φ1 st H1 h1 x v (S.mono l1) r1 q1 P1⟩
variable {rest : List Expr}
theorem s_one {op} (h : SE X cl W a f) : SE X cl W (.BoolOp op [a] pos) f := pe_one h
theorem s_and (ha : SE X cl W a f) (hb : SE X cl W (.BoolOp .And (b :: rest) pos) g) : SE X cl W (.BoolOp .And (a :: b :: rest) pos) (eAnd f g) := PE.of (pe_and ha hb) fun σ H Q p =>
  seqS (k := fun σ x h1 => match x with | .bl true => g σ h1 | .bl false => .ok (.bl false) h1 | _ => .bad) p fun φ st H1 h1 x v S r q P => by
    cases q <;> first | exact P.elim | skip
    rename_i b
    cases b with
    | true => exact ⟨true, rfl, φ, st, h1, S, r, P⟩
    | false => exact ⟨false, rfl, P.val r (.bl _)⟩
theorem s_or (ha : SE X cl W a f) (hb : SE X cl W (.BoolOp .Or (b :: rest) pos) g) : SE X cl W (.BoolOp .Or (a :: b :: rest) pos) (eOr f g) := PE.of (pe_or ha hb) fun σ H Q p =>
  seqS (k := fun σ x h1 => match x with | .bl false => g σ h1 | .bl true => .ok (.bl true) h1 | _ => .bad) p fun φ st H1 h1 x v S r q P => by
    cases q <;> first | exact P.elim | skip
    rename_i b
    cases b with
    | false => exact ⟨false, rfl, φ, st, h1, S, r, P⟩
    | true => exact ⟨true, rfl, P.val r (.bl _)⟩
theorem s_if (hc : ST X cl W c t) (ha : SE X cl W a f) (hb : SE X cl W b g) : SE X cl W (.IfExp c a b pos) (eIf t f g) := PE.of (pe_ifExp hc ha hb) fun σ H Q p =>
  seqS (k := fun σ x h1 => if x = true then f σ h1 else g σ h1) p fun φ st H1 h1 x v S r q P => by
    cases (show x = v from q)
    cases x with
    | true => exact ⟨φ, st, h1, S, r, P⟩
    | false => exact ⟨φ, st, h1, S, r, P⟩
/-! ### tests -/
theorem w_and1 (ha : ST X cl W a t) : SW X cl W (.BoolOp .And [a] pos) t := pw_and1 ha
theorem w_or1 (ha : ST X cl W a t) : SW X cl W (.BoolOp .Or [a] pos) t := pw_or1 ha
theorem w_and (ha : ST X cl W a t) (hb : SW X cl W (.BoolOp .And (b :: rest) pos) t') : SW X cl W (.BoolOp .And (a :: b :: rest) pos) (tAnd t t') := PW.of (pw_and ha hb) fun σ H Q p =>
  seqS (k := fun σ x h1 => if x = true then t' σ h1 else .ok false h1) p fun φ st H1 h1 x v S r q P => by
    cases (show x = v from q)
    cases x with
    | true => exact ⟨φ, st, h1, S, r, P⟩
    | false => exact P.val r rfl
theorem w_or (ha : ST X cl W a t) (hb : SW X cl W (.BoolOp .Or (b :: rest) pos) t') : SW X cl W (.BoolOp .Or (a :: b :: rest) pos) (tOr t t') := PW.of (pw_or ha hb) fun σ H Q p =>
  seqS (k := fun σ x h1 => if x = true then .ok true h1 else t' σ h1) p fun φ st H1 h1 x v S r q P => by
    cases (show x = v from q)
    cases x with
    | true => exact P.val r rfl
    | false => exact ⟨φ, st, h1, S, r, P⟩
theorem t_w (h : SW X cl W e t) : ST X cl W e t := PW.pt h
theorem t_not (ha : ST X cl W a t) : ST X cl W (.UnaryOp .Not a pos) (tNot t) := PT.of (pt_not ha) fun σ H Q p =>
  seq1 (k := fun x h1 => .ok (!x) h1) p fun φ H1 h1 x v r q P => by
    cases (show x = v from q)
    exact P.val r rfl
theorem truth_sound {φ : List Addr} {H : Hp} {h : Hm} (R : HR X.K φ H h) {x : D} {v : V} (rx : Rep X.K φ H x v) {b : Bool} (e : truth h x = some b) : TruV X.K v H b := by
  have lists : ∀ xs, lstOf h x = some xs → b = !xs.isEmpty → TruV X.K v H b := by
    intro xs e1 e2
    obtain ⟨a, vs, rfl, hq, r⟩ := lst_at R rx e1
    exact .inl ⟨vs, hq, by rw [e2, r.empty]⟩
  have wrap : Option.map (fun xs => !List.isEmpty xs) (lstOf h x) = some b → TruV X.K v H b := fun e => by
    obtain ⟨xs, e1, e2⟩ := Option.map_eq_some_iff.mp e
    exact lists xs e1 e2.symm
  cases rx
  case non => simp only [truth] at e; cases e; rfl
  case bl => simp only [truth] at e; cases e; rfl
  case int =>
    simp only [truth] at e; cases e
    show _ = _
    rw [Bool.eq_iff_iff]
    simp
  case str x =>
    simp only [truth] at e
    split at e
    · rename_i hx
      cases e
      refine ⟨by rw [← line_eq]; exact hx, ?_⟩
      rw [Bool.eq_iff_iff]
      simp <;> omega
    · cases e
  case tup a ds vs h r =>
    simp only [truth] at e
    cases e
    exact .inr (.inl ⟨vs, SqT.of h, by rw [r.empty]⟩)
  case fl => exact wrap e
  case sq => exact wrap e
  case loc => exact wrap e
  case obj => exact wrap e
  case exo => exact wrap e
theorem t_tr (ha : SE X cl W a f) (he : ∀ whole, isTrue a X.env whole = (do let v ← whole; standAt a.pos; holding [v] (truthy v)) := by intro _; rfl) : ST X cl W a (tT f) := PT.of (pt_truth ha he) fun σ H Q p =>
  seq1 (k := fun x h1 => ofO (truth h1 x) h1) p fun φ H1 h1 x v r q P => by
    cases e : truth h1 x with
    | none => rw [e] at P; exact P.elim
    | some b =>
      rw [e] at P
      exact ⟨b, truth_sound r q e, P.val r rfl⟩
/-! ### a chain of two comparisons -/
theorem chain_imp {o o' : Hm → D → D → Option D} {σ : L2.St} {H : Hp} {Q : VK} (p : tG X.K cl W (RR X.K) (eCh o o' f g q) σ H Q) : tChain (rY X.K o) (rY X.K o') (tG X.K cl W (RR X.K) f) (tG X.K cl W (RR X.K) g) (tG X.K cl W (RR X.K) q) σ H Q := by
  obtain ⟨φ, st, h0, S, R0, P⟩ := p
  refine ⟨φ, st, h0, S, R0, P.seq fun x h1 φ1 H1 v l1 r1 q1 P1 => ⟨φ1, st, h1, S.mono l1, r1, P1.seq fun y h2 φ2 H2 u l2 r2 q2 P2 => ?_⟩⟩
  refine ⟨cl, fun c d H' => W c d σ H', φ2, h2, x, y, r2, Rep.mono l2.pre l2.per _ _ q1, q2, ?_⟩
  cases e : o h2 x y with
  | none => rw [e] at P2; exact P2.elim
  | some z =>
    rw [e] at P2
    intro φ3 H3 w l3 r3 q3
    cases q3 <;> first | exact P2.elim | skip
    rename_i bb
    refine ⟨bb, rfl, ?_⟩
    cases bb with
    | false => exact P2 φ3 H3 _ l3 r3 (.bl _)
    | true =>
      rw [if_pos rfl]
      have P3 := Post.lat P2 l3
      refine ⟨φ3, st, h2, S.mono (l1.trans (l2.trans l3)), r3, P3.seq fun z h4 φ4 H4 w l4 r4 q4 P4 => ?_⟩
      exact ⟨cl, fun c d H' => W c d σ H', φ4, h4, y, z, r4, Rep.mono (l3.trans l4).pre (l3.trans l4).per _ _ q2, q4, P4⟩
theorem s_chain {op op' : CmpOp} {o o' : Hm → D → D → Option D} (ho : OpY X (compareOp op) o) (ho' : OpY X (compareOp op') o') (ha : SE X cl W a f) (hb : SE X cl W b g) (hc : SE X cl W c q)
    (hm : lastMarks [op, op'] [b, c] = false := by with_unfolding_all rfl) : SE X cl W (.Compare a [op, op'] [b, c] pos) (eCh o o' f g q) := PE.of (pe_chain ho.r ho'.r ha hb hc hm) fun σ H Q p => chain_imp p
theorem t_chain {op op' : CmpOp} {o o' : Hm → D → D → Option D} (ho : OpY X (compareOp op) o) (ho' : OpY X (compareOp op') o') (ha : SE X cl W a f) (hb : SE X cl W b g) (hc : SE X cl W c q)
    (hm : lastMarks [op, op'] [b, c] = false := by with_unfolding_all rfl) : ST X cl W (.Compare a [op, op'] [b, c] pos) (tB (eCh o o' f g q)) := PT.of (pt_chain ho.r ho'.r ha hb hc hm) fun σ H Q p => by
  refine chain_imp ?_
  refine seq1 (k := fun x h1 => match x with | .bl b => .ok b h1 | _ => .bad) p fun φ H1 h1 x v r q P => ?_
  cases q with
  | bl b => exact ⟨b, rfl, P.val r rfl⟩
  | _ => exact P.elim

/-! ### argument lists, displays -/
theorem a_nil : SA X cl W [] aN := PA.of pa_nil fun σ H Q ⟨φ, st, h0, S, R, P⟩ => P.val R .nil
theorem a_cons (ha : SE X cl W e f) (hr : SA X cl W es fa) (hs : starEach (e :: es) X.env = (false, eval e X.env) :: starEach es X.env := by rfl) : SA X cl W (e :: es) (aC f fa) := PA.of (pa_cons ha hr hs) fun σ H Q p => by
  obtain ⟨φ, st, h0, S, R0, P⟩ := p
  refine ⟨φ, st, h0, S, R0, P.seq fun x h1 φ1 H1 v l1 r1 q1 P1 => ⟨φ1, st, h1, S.mono l1, r1, P1.seq fun xs h2 φ2 H2 vs l2 r2 q2 P2 => ?_⟩⟩
  exact P2.val r2 (.cons (Rep.mono l2.pre l2.per _ _ q1) q2)
theorem s_tup {x1} (h : SA X cl W es fa) : SE X cl W (.Tuple es x1 pos) (eTup fa) := PE.of (pe_tup h) fun σ H Q p =>
  seq1 (k := fun xs h1 => if xs.length ≤ line then Rs.ok (D.tup xs) h1 else .bad) p fun φ H1 h1 xs vs r q P => by
    split at P
    · rename_i hz
      refine ⟨by rw [← q.length, ← line_eq]; exact hz, fun p hp => P φ _ _ (Lat.new hp) (r.new hp) (.tup upd_same (RepL.mono (List.prefix_refl _) (Per.new hp) _ _ q))⟩
    · exact P.elim
theorem fresh_new {φ : List Addr} {H : Hp} {h : Hm} (r : HR X.K φ H h) {p : Addr} (hp : H p = none) {ds : List D} {vs : List V} (q : RepL X.K φ H ds vs) : Fresh X.K H φ (upd H p (.lst vs)) ds (.ref p) :=
  ⟨p, vs, rfl, hp, r.notin hp, upd_same, RepL.mono (List.prefix_refl _) (Per.new hp) _ _ q⟩
theorem l_lst (h : SA X cl W es fa) : SL X cl W (.List es pos) (lLst fa) := PE.of (pe_lst h) fun σ H Q p =>
  seq1 (k := fun xs h1 => if xs.length ≤ line then Rs.ok xs h1 else .bad) p fun φ H1 h1 xs vs r q P => by
    split at P
    · rename_i hz
      exact ⟨by rw [← q.length, ← line_eq]; exact hz, fun p hp => P φ _ _ (Lat.new hp) (r.new hp) (fresh_new r hp q)⟩
    · exact P.elim
end
end Y
end

section
set_option Elab.async false
set_option linter.all false
set_option maxRecDepth 100000
set_option maxHeartbeats 2000000
/-! YF: places, built-in calls, targets, loops, comprehensions, statements. -/
namespace Y
open PySem PySem.Spec PyProof.Rows L2

section
variable {X : Cx} {cl : Nat → Addr} {W : WX} {e a b c : Expr} {es : List Expr} {f g q : Ev} {fa : Av} {t t' : Tv} {pos : Pos} {k : Nat}
/-! ### x[y] -/
theorem RepL.atI {K : PySem.W.Frag} {φ : List Addr} {H : Hp} {ds : List D} {vs : List V} {i : Int} {d : D} (r : RepL K φ H ds vs) (e : atI ds i = some d) : ∃ v, L2.atI vs i = some v ∧ Rep K φ H d v := by
  unfold L2.atI at e ⊢
  rw [r.length] at e
  cases h : ixN vs.length i with
  | none => rw [h] at e; cases e
  | some j =>
    rw [h] at e
    obtain ⟨v, h1, h2⟩ := r.get (i := j) (by simpa using e)
    exact ⟨v, by simpa using h1, h2⟩
def rD : R2 := fun x y H Q => ∃ a v, x = .ref a ∧ DGet H a y (some v) ∧ Q v H
theorem ix_dict (hu : X.A.units + 1 < cLine) : IxR X rD := fun value slice pins s σ H x y v u Q I rx ry h hs => by
  obtain ⟨a, w, rfl, g, q⟩ := h
  cases rx
  exact tail_any (dict_typeIs I g) PySem.F.slot_dict_getitem.lookup (d_getItem hu I g ry fun w' s' I' r' => ⟨w, H, I', r', q⟩) hs
theorem key_of_rep {K : PySem.W.Frag} {φ : List Addr} {H : Hp} {y : D} {u : V} {k : Key} (r : Rep K φ H y u) (e : keyOf y = some k) : u = kV k := by
  cases r <;> simp [keyOf] at e <;> subst e <;> rfl
def rI (K : PySem.W.Frag) : R2 := fun x y H Q => rIx K x y H Q ∨ rD x y H Q
theorem ix_all (hu : X.A.units + 1 < cLine) : IxR X (rI X.K) := ix_seq.or (ix_dict hu)
theorem ixD_sound {φ : List Addr} {H : Hp} {h : Hm} {x y z : D} {v u : V} (R : HR X.K φ H h) (rx : Rep X.K φ H x v) (ry : Rep X.K φ H y u) (e : ixD h x y = some z) {Q : VK} (q : ∀ w, Rep X.K φ H z w → Q w H) : rIx X.K v u H Q := by
  have seqs : ∀ xs i, lstOf h x = some xs → y = .int i → atI xs i = some z → rIx X.K v u H Q := by
    intro xs i e1 e2 e3
    subst e2
    cases ry
    obtain ⟨a, vs, rfl, hq, r⟩ := lst_at R rx e1
    obtain ⟨w, h1, h2⟩ := r.atI e3
    exact .inl ⟨a, vs, i, w, rfl, rfl, hq, h1, q w h2⟩
  cases y <;> simp only [ixD] at e <;> try (cases x <;> cases e; done)
  rename_i i
  cases x <;> simp only [ixD, seqOf] at e
  case str x =>
    cases rx; cases ry
    split at e
    · rename_i hx
      obtain ⟨c, hc, rfl⟩ := Option.map_eq_some_iff.mp e
      exact .inr (.inr ⟨x, i, c, rfl, rfl, by rw [← line_eq]; exact hx, hc, q _ (.str _)⟩)
    · cases e
  case tup xs =>
    cases ry
    cases rx with
    | tup hq r =>
      obtain ⟨w, h1, h2⟩ := r.atI (by simpa using e)
      exact .inr (.inl ⟨_, _, i, w, rfl, rfl, SqT.of hq, h1, q w h2⟩)
  all_goals (obtain ⟨xs, e1, e2⟩ := Option.bind_eq_some_iff.mp e; exact seqs xs i e1 rfl e2)
theorem s_ix (c0 : Cs k X) (ha : SE X cl W a f) (hb : SE X cl W b g) (hs : PlainIx b) : SE X cl W (.Subscript a b pos) (e2 oIx f g) := PE.of (pe_ix (ix_all c0.hu) ha hb hs) fun σ H Q p =>
  seq2 p fun φ H2 h2 x y v u R rx ry P => by
    cases e : oIx h2 x y with
    | none => rw [e] at P; exact P.elim
    | some z =>
      rw [e] at P
      have q : ∀ w, Rep X.K φ H2 z w → Q w H2 := fun w hw => P.val R hw
      unfold oIx at e
      cases e1 : dctOf h2 x with
      | none =>
        rw [e1] at e
        exact .inl (ixD_sound R rx ry e q)
      | some kvs =>
        rw [e1] at e
        simp only [oDget, e1] at e
        cases e2 : keyOf y with
        | none => rw [e2] at e; cases e
        | some ky =>
          rw [e2] at e
          have e3 := key_of_rep ry e2
          subst e3
          cases rx <;> simp only [dctOf] at e1 <;> try (cases e1; done)
          rename_i n ad hk
          obtain ⟨ob, h3, h4⟩ := R.at hk
          rw [h3] at e1
          cases ob <;> simp at e1
          subst e1
          cases h4 with
          | dct hh rr =>
            rcases rr.get ky with ⟨z1, _⟩ | ⟨dd, w, z1, z2, z3⟩
            · have e' : (none : Option D) = some z := by rw [← z1]; exact e
              cases e'
            · have e' : some dd = some z := by rw [← z1]; exact e
              cases e'
              refine .inr ⟨ad, w, rfl, ?_, q w z3⟩
              rw [← z2]
              exact .k hh

/-! ### isinstance -/
def tyName : Ty → String
  | .int => "int" | .bool => "bool" | .tuple => "tuple" | .list => "list" | .str => "str" | .dict => "dict"
theorem kits (T : Ty) : kitB "NoneType" (tyName T) = some false ∧ kitB "bool" (tyName T) = some (match T with | .int => true | .bool => true | _ => false) ∧ kitB "int" (tyName T) = some (match T with | .int => true | _ => false) ∧
    kitB "str" (tyName T) = some (match T with | .str => true | _ => false) ∧ kitB "tuple" (tyName T) = some (match T with | .tuple => true | _ => false) ∧ kitB "list" (tyName T) = some (match T with | .list => true | _ => false) ∧ kitB "dict" (tyName T) = some (match T with | .dict => true | _ => false) := by
  cases T <;> decide +kernel
theorem inst_sound {φ : List Addr} {H : Hp} {h : Hm} {x : D} {v : V} {T : Ty} {r : Bool} (R : HR X.K φ H h) (rx : Rep X.K φ H x v) (e : instD h T x = some r) : ∃ t, TyX X.K H v t ∧ PySem.W.kitOne X.K t (.type (tyName T)) = some r := by
  obtain ⟨k1, k2, k3, k4, k5, k6, k7⟩ := kits T
  have tupK : ∀ {a : Addr} {vs : List V}, SqT X.K H a vs → TyX X.K H (.ref a) (.type "tuple") := fun hq => by
    rcases hq with (h | ⟨o, h⟩) | ⟨o, its, n, hk, hc, _⟩
    · exact .base (.tup h)
    · exact .fTuple h
    · exact .kTuple hk hc
  have lstK : ∀ {a : Addr} {vs : List V}, SqL X.K H a vs → TyX X.K H (.ref a) (.type "list") := fun hq => by
    rcases hq with (h | ⟨o, h⟩) | ⟨o, its, n, hk, hc, _⟩
    · exact .base (.lst h)
    · exact .base (.frz h)
    · exact .kList hk hc
  cases rx with
  | non => refine ⟨_, .base .non, kit_ty ?_⟩; rw [k1]; cases T <;> simpa [instD] using e
  | bl b => refine ⟨_, .base (.bl b), kit_ty ?_⟩; rw [k2]; cases T <;> simpa [instD] using e
  | int b => refine ⟨_, .base (.int b), kit_ty ?_⟩; rw [k3]; cases T <;> simpa [instD] using e
  | str b => refine ⟨_, .base (.str b), kit_ty ?_⟩; rw [k4]; cases T <;> simpa [instD] using e
  | tup hq _ => refine ⟨_, tupK (SqT.of hq), kit_ty ?_⟩; rw [k5]; cases T <;> simpa [instD] using e
  | fl hq _ => refine ⟨_, lstK (.inl (.inr ⟨_, hq⟩)), kit_ty ?_⟩; rw [k6]; cases T <;> simpa [instD] using e
  | sq hq _ => refine ⟨_, lstK hq.sq, kit_ty ?_⟩; rw [k6]; cases T <;> simpa [instD] using e
  | obj _ _ _ _ _ => cases T <;> simp [instD] at e
  | exo => cases T <;> simp [instD] at e
  | loc hk =>
    obtain ⟨ob, h1, h2⟩ := R.at hk
    cases h2 with
    | lst hh _ => refine ⟨_, .base (.lst hh), kit_ty ?_⟩; rw [k6]; cases T <;> simpa [instD, h1] using e
    | dct hh _ => refine ⟨_, .base (.dK hh), kit_ty ?_⟩; rw [k7]; cases T <;> simpa [instD, h1] using e
    | dtu hh _ => refine ⟨_, .base (.dT hh), kit_ty ?_⟩; rw [k7]; cases T <;> simpa [instD, h1] using e
theorem s_isi {p1 p2 : Pos} (T : Ty) (ha : SE X cl W a f) (hg : Gl X "isinstance" := by rfl) (hm : X.mg "isinstance" = none) (hg2 : Gl X (Str.ofString (tyName T)) := by rfl) (hm2 : X.mg (Str.ofString (tyName T)) = none)
    (hb : bootBuiltins (Str.ofString (tyName T)) = some (.type (tyName T))) (hn : Str.ofString (tyName T) ≠ "__name__") (hd : (Str.ofString (tyName T) == ("__debug__" : Str)) = false)
    (he : starEach [a, .Name (Str.ofString (tyName T)) p2] X.env = (false, eval a X.env) :: starEach [.Name (Str.ofString (tyName T)) p2] X.env := by rfl)
    (he2 : starEach [.Name (Str.ofString (tyName T)) p2] X.env = (false, eval (.Name (Str.ofString (tyName T)) p2) X.env) :: starEach [] X.env := by rfl)
    (hpl : (backTo pos (starEach [.Name (Str.ofString (tyName T)) p2] X.env)).any (·.1) = false := by rfl) :
    SE X cl W (.Call (.Name "isinstance" p1) [a, .Name (Str.ofString (tyName T)) p2] [] pos) (eIs T f) := by
  refine PE.of (pe_callB call_isi hg hm (by decide +kernel) (pa_cons ha (pa_cons (pe_bltn (v := .ty (tyName T)) hg2 hm2 hb rfl hn hd) pa_nil he2) he) (by decide) (by decide) he hpl) fun σ H Q p => ?_
  refine seq1 (k := fun x h1 => ofO ((instD h1 T x).map D.bl) h1) p fun φ H1 h1 x v R rx P => ?_
  cases e : instD h1 T x with
  | none => rw [e] at P; exact P.elim
  | some r =>
    rw [e] at P
    obtain ⟨t, h2, h3⟩ := inst_sound R rx e
    exact ⟨v, .ty (tyName T), t, .type (tyName T), r, rfl, .ty _, h2, h3, P.val R (.bl r)⟩

/-! ### built-in functions, by values -/
def rC (K : PySem.W.Frag) {β : Type} (o : Hm → List D → Option β) (Rel : RT β V) : List V → Hp → VK → Prop := fun vs H Q => ∃ (cl : Nat → Addr) (We : WE') (φ : List Addr) (h : Hm) (xs : List D), HR K φ H h ∧ RepL K φ H xs vs ∧ Post K cl φ H Rel (ofO (o h xs) h) Q We
/-- a built-in's meaning -/
def CaY (X : Cx) (F : Value) (o : Hm → List D → Option D) : Prop := CallR X F (rC X.K o (RR X.K))
def CaL (X : Cx) (F : Value) (o : Hm → List D → Option (List D)) : Prop := CallR X F (rC X.K o (Fresh X.K))
theorem caY {F : Value} {o : Hm → List D → Option D} (h : ∀ (Q : VK) (φ : List Addr) (H : Hp) (h : Hm) (xs : List D) (vs : List V) (z : D), HR X.K φ H h → RepL X.K φ H xs vs → o h xs = some z →
    (∀ φ' H' w, Lat φ H φ' H' → HR X.K φ' H' h → Rep X.K φ' H' z w → Q w H') → ∃ r, CallR X F r ∧ r vs H Q) : CaY X F o := fun pins s σ H vs us Q I r ⟨cl, We, φ, hh, xs, R, q, P⟩ => by
  cases e : o hh xs with
  | none => rw [e] at P; exact P.elim
  | some z =>
    rw [e] at P
    obtain ⟨r', h1, h2⟩ := h Q φ H hh xs vs z R q e P
    exact h1 pins s σ H vs us Q I r h2
theorem caL {F : Value} {o : Hm → List D → Option (List D)} (h : ∀ (Q : VK) (φ : List Addr) (H : Hp) (h : Hm) (xs : List D) (vs : List V) (z : List D), HR X.K φ H h → RepL X.K φ H xs vs → o h xs = some z →
    (∀ φ' H' w, Lat φ H φ' H' → HR X.K φ' H' h → Fresh X.K H φ' H' z w → Q w H') → ∃ r, CallR X F r ∧ r vs H Q) : CaL X F o := fun pins s σ H vs us Q I r ⟨cl, We, φ, hh, xs, R, q, P⟩ => by
  cases e : o hh xs with
  | none => rw [e] at P; exact P.elim
  | some z =>
    rw [e] at P
    obtain ⟨r', h1, h2⟩ := h Q φ H hh xs vs z R q e P
    exact h1 pins s σ H vs us Q I r h2
theorem RepL.one {φ : List Addr} {H : Hp} {K : PySem.W.Frag} {d : D} {vs : List V} (r : RepL K φ H [d] vs) : ∃ v, vs = [v] ∧ Rep K φ H d v := by
  cases r with
  | cons h r => cases r; exact ⟨_, rfl, h⟩
theorem seq_at {φ : List Addr} {H : Hp} {h : Hm} (R : HR X.K φ H h) {x : D} {v : V} (rx : Rep X.K φ H x v) {xs : List D} (e : seqOf h x = some xs) : ∃ a vs, v = .ref a ∧ (SqL X.K H a vs ∨ SqT X.K H a vs) ∧ RepL X.K φ H xs vs := by
  cases rx
  case tup a ds vs hq r => simp [seqOf] at e; subst e; exact ⟨a, vs, rfl, .inr (SqT.of hq), r⟩
  case fl a o ds vs hq r => obtain ⟨a, vs, e1, e2, e3⟩ := lst_at R (.fl hq r) e; exact ⟨a, vs, e1, .inl e2, e3⟩
  case sq a ds vs hq r => obtain ⟨a, vs, e1, e2, e3⟩ := lst_at R (.sq hq r) e; exact ⟨a, vs, e1, .inl e2, e3⟩
  case loc k a hk => obtain ⟨a, vs, e1, e2, e3⟩ := lst_at R (.loc hk) e; exact ⟨a, vs, e1, .inl e2, e3⟩
  all_goals (simp [seqOf, lstOf] at e)
theorem c_len : CaY X (.builtin "len") bLen := caY fun Q φ H h xs vs z R r e q => by
  rcases xs with _ | ⟨d, _ | _⟩
  · simp [bLen] at e
  · obtain ⟨v, rfl, rd⟩ := r.one
    have gen : (seqOf h d).map (fun xs => D.int xs.length) = some z → ∃ r, CallR X (.builtin "len") r ∧ r [v] H Q := fun e => by
      obtain ⟨ys, e1, rfl⟩ := Option.map_eq_some_iff.mp e
      obtain ⟨a, us, rfl, hq, rr⟩ := seq_at R rd e1
      refine ⟨_, call_len_seq, a, us, rfl, hq, ?_⟩
      rw [← rr.length]
      exact q φ H _ (Lat.refl _ _) R (.int _)
    cases d
    case str x =>
      cases rd
      simp only [bLen] at e
      split at e
      · rename_i hx
        cases e
        exact ⟨_, call_len_str, x, rfl, by rw [← line_eq]; exact hx, q φ H _ (Lat.refl _ _) R (.int _)⟩
      · cases e
    all_goals exact gen e
  · simp [bLen] at e
theorem c_int : CaY X (.type "int") bInt := caY fun Q φ H h xs vs z R r e q => by
  rcases xs with _ | ⟨d, _ | _⟩ <;> simp only [bInt] at e <;> try (cases e; done)
  · obtain ⟨v, rfl, rd⟩ := r.one
    cases rd <;> simp only [bInt] at e <;> try (cases e; done)
    · cases e; exact ⟨_, call_int1, .inr ⟨_, rfl, q φ H _ (Lat.refl _ _) R (.int _)⟩⟩
    · cases e; exact ⟨_, call_int1, .inl ⟨_, rfl, q φ H _ (Lat.refl _ _) R (.int _)⟩⟩
theorem c_abs : CaY X (.builtin "abs") bAbs := caY fun Q φ H h xs vs z R r e q => by
  rcases xs with _ | ⟨d, _ | _⟩ <;> simp only [bAbs] at e <;> try (cases e; done)
  · obtain ⟨v, rfl, rd⟩ := r.one
    cases rd <;> simp only [bAbs] at e <;> try (cases e; done)
    cases e; exact ⟨_, call_abs, _, rfl, q φ H _ (Lat.refl _ _) R (.int _)⟩
theorem c_all (hc : X.calm = true) : CaY X (.builtin "all") bAll := caY fun Q φ H h xs vs z R r e q => by
  rcases xs with _ | ⟨d, _ | _⟩ <;> simp only [bAll] at e <;> try (cases e; done)
  obtain ⟨v, rfl, rd⟩ := r.one
  cases e1 : (lstOf h d).bind bools with
  | none => rw [e1] at e; cases e
  | some bs =>
    rw [e1] at e
    cases e
    obtain ⟨ys, e2, e3⟩ := Option.bind_eq_some_iff.mp e1
    obtain ⟨a, us, rfl, hq, rr⟩ := lst_at R rd e2
    rw [rr.bools e3] at hq
    exact ⟨_, cr_all hc, a, bs, rfl, hq, q φ H _ (Lat.refl _ _) R (.bl _)⟩
theorem c_any (hc : X.calm = true) : CaY X (.builtin "any") bAny := caY fun Q φ H h xs vs z R r e q => by
  rcases xs with _ | ⟨d, _ | _⟩ <;> simp only [bAny] at e <;> try (cases e; done)
  obtain ⟨v, rfl, rd⟩ := r.one
  cases e1 : (lstOf h d).bind bools with
  | none => rw [e1] at e; cases e
  | some bs =>
    rw [e1] at e
    cases e
    obtain ⟨ys, e2, e3⟩ := Option.bind_eq_some_iff.mp e1
    obtain ⟨a, us, rfl, hq, rr⟩ := lst_at R rd e2
    rw [rr.bools e3] at hq
    exact ⟨_, cr_any hc, a, bs, rfl, hq, q φ H _ (Lat.refl _ _) R (.bl _)⟩
theorem c_sum (hc : X.calm = true) : CaY X (.builtin "sum") bSum := caY fun Q φ H h xs vs z R r e q => by
  rcases xs with _ | ⟨d, _ | _⟩ <;> simp only [bSum] at e <;> try (cases e; done)
  obtain ⟨v, rfl, rd⟩ := r.one
  cases e1 : (lstOf h d).bind intsOf with
  | none => rw [e1] at e; cases e
  | some bs =>
    rw [e1] at e
    cases e
    obtain ⟨ys, e2, e3⟩ := Option.bind_eq_some_iff.mp e1
    obtain ⟨a, us, rfl, hq, rr⟩ := lst_at R rd e2
    rw [rr.intsOf e3] at hq
    exact ⟨_, cr_sum hc, a, bs, rfl, hq, q φ H _ (Lat.refl _ _) R (.int _)⟩
theorem c_list : CaL X (.type "list") mList := caL fun Q φ H h xs vs z R r e q => by
  rcases xs with _ | ⟨d, _ | _⟩ <;> simp only [mList] at e <;> try (cases e; done)
  obtain ⟨v, rfl, rd⟩ := r.one
  obtain ⟨a, us, rfl, hq, rr⟩ := seq_at R rd e
  exact ⟨_, call_list_of, a, us, rfl, hq, fun l hl => q φ _ _ (Lat.new hl) (R.new hl) (fresh_new R hl rr)⟩
theorem c_tuple : CaY X (.type "tuple") bTuple := caY fun Q φ H h xs vs z R r e q => by
  rcases xs with _ | ⟨d, _ | _⟩ <;> simp only [bTuple] at e <;> try (cases e; done)
  · obtain ⟨v, rfl, rd⟩ := r.one
    have gen : (lstOf h d).map D.tup = some z → ∃ r, CallR X (.type "tuple") r ∧ r [v] H Q := fun e => by
      obtain ⟨ys, e1, rfl⟩ := Option.map_eq_some_iff.mp e
      obtain ⟨a, us, rfl, hq, rr⟩ := lst_at R rd e1
      exact ⟨_, call_tuple_of, a, us, rfl, .inl ⟨hq, fun l hl => q φ _ _ (Lat.new hl) (R.new hl) (.tup upd_same (RepL.mono (List.prefix_refl _) (Per.new hl) _ _ rr))⟩⟩
    cases d
    case tup xs =>
      simp only [bTuple] at e
      cases e
      cases rd with
      | tup hq rr => exact ⟨_, call_tuple_of, _, _, rfl, .inr ⟨SqT.of hq, q φ H _ (Lat.refl _ _) R (.tup hq rr)⟩⟩
    all_goals exact gen e
/-- f(..), f a built-in function by its name -/
theorem s_b {x : Str} {id : String} {p : Pos} {o : Hm → List D → Option D} (hc : CaY X (.builtin id) o) (hg : Gl X x) (hm : X.mg x = none) (hv : bootBuiltins x = some (.builtin id)) (ha : SA X cl W (e :: es) fa) (hn : x ≠ "__name__" := by decide) (hdb : (x == ("__debug__" : Str)) = false := by decide)
    (he : starEach (e :: es) X.env = (false, eval e X.env) :: starEach es X.env := by rfl) (hpl : (backTo pos (starEach es X.env)).any (·.1) = false := by rfl) : SE X cl W (.Call (.Name x p) (e :: es) [] pos) (eB o fa) := PE.of (pe_callB hc hg hm hv ha hn hdb he hpl) fun σ H Q p =>
  seq1 (k := fun xs h1 => ofO (o h1 xs) h1) p fun φ H1 h1 xs vs R r P => ⟨cl, fun c d H' => W c d σ H', φ, h1, xs, R, r, P⟩
theorem s_bT {x : Str} {id : String} {p : Pos} {o : Hm → List D → Option D} (hc : CaY X (.type id) o) (hg : Gl X x) (hm : X.mg x = none) (hv : bootBuiltins x = some (.type id)) (ha : SA X cl W (e :: es) fa) (hn : x ≠ "__name__" := by decide) (hdb : (x == ("__debug__" : Str)) = false := by decide)
    (he : starEach (e :: es) X.env = (false, eval e X.env) :: starEach es X.env := by rfl) (hpl : (backTo pos (starEach es X.env)).any (·.1) = false := by rfl) : SE X cl W (.Call (.Name x p) (e :: es) [] pos) (eB o fa) := PE.of (pe_callTy hc hg hm hv ha hn hdb he hpl) fun σ H Q p =>
  seq1 (k := fun xs h1 => ofO (o h1 xs) h1) p fun φ H1 h1 xs vs R r P => ⟨cl, fun c d H' => W c d σ H', φ, h1, xs, R, r, P⟩
theorem l_bT {x : Str} {id : String} {p : Pos} {o : Hm → List D → Option (List D)} (hc : CaL X (.type id) o) (hg : Gl X x) (hm : X.mg x = none) (hv : bootBuiltins x = some (.type id)) (ha : SA X cl W (e :: es) fa) (hn : x ≠ "__name__" := by decide) (hdb : (x == ("__debug__" : Str)) = false := by decide)
    (he : starEach (e :: es) X.env = (false, eval e X.env) :: starEach es X.env := by rfl) (hpl : (backTo pos (starEach es X.env)).any (·.1) = false := by rfl) : SL X cl W (.Call (.Name x p) (e :: es) [] pos) (lB o fa) := PE.of (pe_callTy hc hg hm hv ha hn hdb he hpl) fun σ H Q p =>
  seq1 (k := fun xs h1 => ofO (o h1 xs) h1) p fun φ H1 h1 xs vs R r P => ⟨cl, fun c d H' => W c d σ H', φ, h1, xs, R, r, P⟩
theorem l_b {x : Str} {id : String} {p : Pos} {o : Hm → List D → Option (List D)} (hc : CaL X (.builtin id) o) (hg : Gl X x) (hm : X.mg x = none) (hv : bootBuiltins x = some (.builtin id)) (ha : SA X cl W (e :: es) fa) (hn : x ≠ "__name__" := by decide) (hdb : (x == ("__debug__" : Str)) = false := by decide)
    (he : starEach (e :: es) X.env = (false, eval e X.env) :: starEach es X.env := by rfl) (hpl : (backTo pos (starEach es X.env)).any (·.1) = false := by rfl) : SL X cl W (.Call (.Name x p) (e :: es) [] pos) (lB o fa) := PE.of (pe_callB hc hg hm hv ha hn hdb he hpl) fun σ H Q p =>
  seq1 (k := fun xs h1 => ofO (o h1 xs) h1) p fun φ H1 h1 xs vs R r P => ⟨cl, fun c d H' => W c d σ H', φ, h1, xs, R, r, P⟩
end
end Y
end

section
set_option Elab.async false
set_option linter.all false
set_option maxRecDepth 100000
set_option maxHeartbeats 2000000
/-! YG: targets, loops, comprehensions, statements. -/
namespace Y
open PySem PySem.Spec PyProof.Rows L2

/-! ### targets -/
/-- all but the slots at is stand -/
def Chg (is : List Nat) (σ τ : L2.St) : Prop := τ.length = σ.length ∧ ∀ j, j ∉ is → τ[j]? = σ[j]?
theorem Chg.trans {is js : List Nat} {σ τ υ : L2.St} (a : Chg is σ τ) (b : Chg js τ υ) : Chg (is ++ js) σ υ :=
  ⟨b.1.trans a.1, fun j n => by rw [List.mem_append, not_or] at n; rw [b.2 j n.2, a.2 j n.1]⟩
theorem Chg.set {i : Nat} {o : Option V} (σ : L2.St) : Chg [i] σ (σ.set i o) := ⟨by simp, fun j n => by rw [List.getElem?_set_ne (fun e => n (by simp [e]))]⟩
theorem wipe_get (σ : L2.St) : ∀ (vs : List Nat) (j : Nat), j ∉ vs → (wipe σ vs)[j]? = σ[j]?
  | [], _, _ => rfl
  | v :: vs, j, n => by
    rw [List.mem_cons, not_or] at n
    show ((wipe σ vs).set v none)[j]? = _
    rw [List.getElem?_set_ne (Ne.symm n.1), wipe_get σ vs j n.2]
theorem wipe_in (σ : L2.St) : ∀ (vs : List Nat) (j : Nat), j ∈ vs → j < σ.length → (wipe σ vs)[j]? = some none
  | [], _, m, _ => by cases m
  | v :: vs, j, m, l => by
    show ((wipe σ vs).set v none)[j]? = _
    by_cases e : j = v
    · subst e
      rw [List.getElem?_set_self (by rw [wipe_length]; exact l)]
    · rw [List.getElem?_set_ne (Ne.symm e)]
      exact wipe_in σ vs j ((List.mem_cons.mp m).resolve_left e) l
theorem Chg.wipe {is vs : List Nat} {σ τ : L2.St} (c : Chg is σ τ) (h : ∀ i ∈ is, i ∈ vs) : wipe τ vs = L2.wipe σ vs := by
  apply List.ext_getElem?
  intro j
  by_cases m : j ∈ vs
  · by_cases l : j < σ.length
    · rw [wipe_in τ vs j m (by rw [c.1]; exact l), wipe_in σ vs j m l]
    · rw [List.getElem?_eq_none (by rw [wipe_length, c.1]; omega), List.getElem?_eq_none (by rw [wipe_length]; omega)]
  · rw [wipe_get τ vs j m, wipe_get σ vs j m]
    exact c.2 j fun i => m (h j i)
theorem wipe_wipe (σ : L2.St) (vs : List Nat) : wipe (wipe σ vs) vs = wipe σ vs := Chg.wipe (is := vs) ⟨wipe_length σ vs, fun j n => wipe_get σ vs j n⟩ fun _ h => h
def tGv (K : PySem.W.Frag) (g : Gv) (is : List Nat) : TG := fun v σ H Q => ∃ φ st d st1, SR K φ H st σ ∧ Rep K φ H d v ∧ g d st = some st1 ∧ ∀ τ, SR K φ H st1 τ → Chg is σ τ → Q τ H
def tGvs (K : PySem.W.Frag) (gs : List Gv) (is : List Nat) : TGs := fun vs σ H Q => ∃ φ st ds st1, SR K φ H st σ ∧ RepL K φ H ds vs ∧ gTs gs ds st = some st1 ∧ ∀ τ, SR K φ H st1 τ → Chg is σ τ → Q τ H
abbrev SG (X : Cx) (e : Expr) (g : Gv) (is : List Nat) : Prop := PG X e (tGv X.K g is)
theorem PG.of {X : Cx} {e : Expr} {t t' : TG} (h : PG X e t) (i : ∀ v σ H Q, t' v σ H Q → t v σ H Q) : PG X e t' := ⟨fun pins s σ H v u Q I r q => h.run pins s σ H v u Q I r (i v σ H Q q)⟩
theorem PGs.of {X : Cx} {e : List Expr} {t t' : TGs} (h : PGs X e t) (i : ∀ v σ H Q, t' v σ H Q → t v σ H Q) : PGs X e t' := ⟨fun pins s σ H v u Q I r q => h.run pins s σ H v u Q I r (i v σ H Q q)⟩
section
variable {X : Cx} {pos : Pos}
theorem g_n (i : Nat) {x : Str} (hN : X.N.Nodup) (hi : X.N[i]? = some x := by rfl) (hx : Loc X.env.scope x := by first | exact Or.inl rfl | exact Or.inr rfl) (hf : X.fn x = true ∨ X.env.scope.names.lookup x = some .local := by first | exact .inl rfl | exact .inr rfl | assumption) : SG X (.Name x pos) (gN i) [i] :=
  PG.of (pg_name hN hi hx hf) fun v σ H Q ⟨φ, st, d, st1, S, r, e, q⟩ => by
    simp only [gN, Option.some.injEq] at e
    subst e
    exact q _ (S.set i r) (Chg.set σ)
theorem gs_nil : PGs X [] (tGvs X.K [] []) := PGs.of pgs_nil fun vs σ H Q ⟨φ, st, ds, st1, S, r, e, q⟩ => by
  cases r with
  | nil =>
    simp only [gTs, Option.some.injEq] at e
    subst e
    exact ⟨rfl, q σ S ⟨rfl, fun _ _ => rfl⟩⟩
  | cons _ _ => simp [gTs] at e
theorem gs_cons {e : Expr} {es : List Expr} {g : Gv} {gs : List Gv} {is js : List Nat} (h1 : SG X e g is) (h2 : PGs X es (tGvs X.K gs js)) (hs : (assignEach (e :: es) X.env).map (·.2) = assign e X.env :: (assignEach es X.env).map (·.2) := by rfl) :
    PGs X (e :: es) (tGvs X.K (g :: gs) (is ++ js)) := PGs.of (pgs_cons h1 h2 hs) fun vs σ H Q ⟨φ, st, ds, st1, S, r, e, q⟩ => by
  cases r with
  | nil => simp [gTs] at e
  | @cons d v ds vs r1 r2 =>
    obtain ⟨st2, e1, e2⟩ := Option.bind_eq_some_iff.mp (show (g d st).bind (gTs gs ds) = some st1 from e)
    exact ⟨v, vs, rfl, φ, st, d, st2, S, r1, e1, fun τ S2 c2 => ⟨φ, st2, ds, st1, S2, r2, e2, fun υ S3 c3 => q υ S3 (c2.trans c3)⟩⟩
theorem gTs_len : ∀ {gs : List Gv} {ds : List D} {st st1 : Sl}, gTs gs ds st = some st1 → ds.length = gs.length
  | [], [], _, _, _ => rfl
  | [], _ :: _, _, _, h => by simp [gTs] at h
  | _ :: _, [], _, _, h => by simp [gTs] at h
  | g :: gs, d :: ds, st, st1, h => by
    obtain ⟨st2, _, e2⟩ := Option.bind_eq_some_iff.mp (show (g d st).bind (gTs gs ds) = some st1 from h)
    simp [gTs_len e2]
theorem g_tup {es : List Expr} {n : Nat} {gs : List Gv} {is : List Nat} (hc : X.calm = true) (h : PGs X es (tGvs X.K gs is)) (hn : (assignEach es X.env).length = gs.length := by rfl) (hst : (assignEach es X.env).findIdx? (·.1) = none := by rfl) :
    SG X (.Tuple es n pos) (gT gs) is := PG.of (pg_tup hc h hn hst) fun v σ H Q ⟨φ, st, d, st1, S, r, e, q⟩ => by
  cases r <;> simp only [gT] at e <;> try (cases e; done)
  rename_i a ds vs hq r _
  exact ⟨a, vs, rfl, SqT.of hq, by rw [← r.length]; exact gTs_len e, φ, st, ds, st1, S, r, e, q⟩
end

/-! ### what is walked -/
/-- a later state, where one's own lists may have changed -/
structure Wk (φ : List Addr) (H : Hp) (φ' : List Addr) (H' : Hp) : Prop where
  pre : φ <+: φ'
  per : Per H H'
theorem Lat.wk {φ φ' : List Addr} {H H' : Hp} (l : Lat φ H φ' H') : Wk φ H φ' H' := ⟨l.pre, l.per⟩
theorem Wk.refl (φ : List Addr) (H : Hp) : Wk φ H φ H := ⟨List.prefix_refl _, Per.refl _⟩
theorem Wk.trans {φ1 φ2 φ3 : List Addr} {H1 H2 H3 : Hp} (a : Wk φ1 H1 φ2 H2) (b : Wk φ2 H2 φ3 H3) : Wk φ1 H1 φ3 H3 := ⟨a.pre.trans b.pre, a.per.trans b.per⟩
def Drv (K : PySem.W.Frag) (φ1 : List Addr) (H1 : Hp) (J : It) (ds : List D) : Prop := ∀ φ H h, Wk φ1 H1 φ H → HR K φ H h →
  (∀ i d, ds[i]? = some d → J.go i H ∧ ∀ x H', J.yld i H x H' → Lat φ H φ H' ∧ HR K φ H' h ∧ Rep K φ H' d x) ∧ J.stop ds.length H
def DrvG (K : PySem.W.Frag) (φ1 : List Addr) (H1 : Hp) (G : Hm → Bool) (J : It) (ds : List D) : Prop := ∀ φ H h, Wk φ1 H1 φ H → HR K φ H h → G h = true →
  (∀ i d, ds[i]? = some d → J.go i H ∧ ∀ x H', J.yld i H x H' → Lat φ H φ H' ∧ HR K φ H' h ∧ Rep K φ H' d x) ∧ J.stop ds.length H
theorem Drv.g {K : PySem.W.Frag} {φ1 : List Addr} {H1 : Hp} {G : Hm → Bool} {J : It} {ds : List D} (d : Drv K φ1 H1 J ds) : DrvG K φ1 H1 G J ds := fun φ H h l r _ => d φ H h l r
def tI2 (K : PySem.W.Frag) (cl : Nat → Addr) (W : WX) (f : Iv2) : TI := fun σ H R => ∃ φ st h, SR K φ H st σ ∧ HR K φ H h ∧ match f st h with
  | .ok p h' => ∀ φ' H' J, Lat φ H φ' H' → HR K φ' H' h' → DrvG K φ' H' (gd p.1 p.2) J p.2 → R J H'
  | .ex e h' => ∀ φ' H' c d, Lat φ H φ' H' → HR K φ' H' h' → ER K cl φ' H' e c d → W c d σ H'
  | .bad => False
abbrev SI2 (X : Cx) (cl : Nat → Addr) (W : WX) (tg iter : Expr) (f : Iv2) : Prop := PI X tg iter (tI2 X.K cl W f)
def tI (K : PySem.W.Frag) (cl : Nat → Addr) (W : WX) (f : Iv) : TI := fun σ H R => ∃ φ st h, SR K φ H st σ ∧ HR K φ H h ∧ match f st h with
  | .ok ds h' => ∀ φ' H' J, Lat φ H φ' H' → HR K φ' H' h' → Drv K φ' H' J ds → R J H'
  | .ex e h' => ∀ φ' H' c d, Lat φ H φ' H' → HR K φ' H' h' → ER K cl φ' H' e c d → W c d σ H'
  | .bad => False
abbrev SI (X : Cx) (cl : Nat → Addr) (W : WX) (tg iter : Expr) (f : Iv) : Prop := PI X tg iter (tI X.K cl W f)
theorem PI.of {X : Cx} {tg e : Expr} {t t' : TI} (h : PI X tg e t) (i : ∀ σ H Q, t' σ H Q → t σ H Q) : PI X tg e t' := ⟨fun pins s σ H R I q => h.run pins s σ H R I (i σ H R q)⟩
section
variable {X : Cx} {cl : Nat → Addr} {W : WX} {tg e a b : Expr} {f : Ev} {fa : Av} {pos : Pos}
theorem seqI {γ δ : Type} {R1 : RT γ δ} {f : Sl → Hm → Rs γ} {k : γ → Hm → Rs (List D)} {σ : L2.St} {H : Hp} {R : It → Hp → Prop} {R' : δ → Hp → Prop} (p : tI X.K cl W (fun σ h => (f σ h).bind fun x h1 => k x h1) σ H R)
    (h : ∀ φ H1 h1 x v ds h2, HR X.K φ H1 h1 → R1 H φ H1 x v → k x h1 = .ok ds h2 → (∀ J, HR X.K φ H1 h2 → Drv X.K φ H1 J ds → R J H1) → R' v H1) (hk : ∀ x h1, (∃ a h2, k x h1 = .ok a h2) ∨ k x h1 = .bad) : tG X.K cl W R1 f σ H R' := by
  obtain ⟨φ, st, h0, S, R0, P⟩ := p
  refine ⟨φ, st, h0, S, R0, ?_⟩
  cases e : f st h0 with
  | bad => simp only [e, Rs.bind] at P
  | ex _ _ => simp only [e, Rs.bind] at P; exact P
  | ok x h1 =>
    simp only [e, Rs.bind] at P
    intro φ1 H1 v l1 r1 q1
    rcases hk x h1 with ⟨ds, h2, e2⟩ | e2
    · rw [e2] at P
      exact h φ1 H1 h1 x v ds h2 r1 q1 e2 fun J r2 dv => P φ1 H1 J l1 r2 dv
    · rw [e2] at P; exact P.elim
theorem drv_tup {K : PySem.W.Frag} {φ : List Addr} {H : Hp} {p : Addr} {ds : List D} {vs : List V} (hq : SqT K H p vs) (r : RepL K φ H ds vs) : Drv K φ H (Itt K p) ds := fun φ' H' h l R => by
  have hq' := SqT.per hq l.per
  have r' := RepL.mono l.pre l.per _ _ r
  refine ⟨fun i d e => ?_, vs, hq', by rw [r'.length]; exact Nat.le_refl _⟩
  obtain ⟨v, h1, h2⟩ := r'.get e
  refine ⟨⟨vs, v, hq', h1⟩, fun x H2 y => ?_⟩
  obtain ⟨rfl, y⟩ := y
  have ev := y vs hq'
  rw [h1] at ev
  cases ev
  exact ⟨Lat.refl _ _, R, h2⟩
theorem drv_lst {K : PySem.W.Frag} {φ : List Addr} {H : Hp} {p : Addr} {ds : List D} {vs : List V} (hq : ∀ H', Per H H' → SqL K H' p vs) (r : RepL K φ H ds vs) : Drv K φ H (Itl K p) ds := fun φ' H' h l R => by
  have hq' := hq H' l.per
  have r' := RepL.mono l.pre l.per _ _ r
  refine ⟨fun i d e => ?_, vs, hq', by rw [r'.length]; exact Nat.le_refl _⟩
  obtain ⟨v, h1, h2⟩ := r'.get e
  refine ⟨⟨vs, v, hq', h1⟩, fun x H2 y => ?_⟩
  obtain ⟨rfl, y⟩ := y
  have ev := y vs hq'
  rw [h1] at ev
  cases ev
  exact ⟨Lat.refl _ _, R, h2⟩
theorem i_tup (ha : SE X cl W e f) : SI X cl W tg e (iT f) := PI.of (pi_tup ha) fun σ H R p =>
  seqI (R1 := RR X.K) (k := fun x h1 => match x with | .tup xs => .ok xs h1 | _ => .bad) p (fun φ H1 h1 x v ds h2 R1 r e q => by
    cases x <;> simp at e
    obtain ⟨rfl, rfl⟩ := e
    cases r with
    | tup hq rr => exact ⟨_, rfl, ⟨_, SqT.of hq⟩, q _ R1 (drv_tup (SqT.of hq) rr)⟩) fun x h1 => by cases x <;> simp
theorem i_lst (ha : SE X cl W e f) : SI X cl W tg e (iF f) := PI.of (pi_list ha) fun σ H R p =>
  seqI (R1 := RR X.K) (k := fun x h1 => match x with | .fl xs => .ok xs h1 | .sq xs => .ok xs h1 | _ => .bad) p (fun φ H1 h1 x v ds h2 R1 r e q => by
    cases x <;> simp at e
    · obtain ⟨rfl, rfl⟩ := e
      cases r with
      | fl hq rr => exact ⟨_, rfl, ⟨_, .inl (.inr ⟨_, hq⟩)⟩, q _ R1 (drv_lst (fun H' p => .inl (.inr ⟨_, p.frz _ _ _ hq⟩)) rr)⟩
    · obtain ⟨rfl, rfl⟩ := e
      cases r with
      | sq hq rr => exact ⟨_, rfl, ⟨_, hq.sq⟩, q _ R1 (drv_lst (fun H' p => (hq.per p).sq) rr)⟩) fun x h1 => by cases x <;> simp
theorem drv_rng {K : PySem.W.Frag} {φ : List Addr} {H : Hp} (lo : Int) (n : Nat) : Drv K φ H (Itr lo n) (rangeD lo n) := fun φ' H' h l R => by
  refine ⟨fun i d e => ?_, by show n ≤ (rangeD lo n).length; simp [rangeD]⟩
  simp only [rangeD, List.getElem?_map] at e
  have hi : i < n := by
    by_cases hi : i < n
    · exact hi
    · rw [List.getElem?_eq_none (by simp; omega)] at e; cases e
  rw [List.getElem?_range hi] at e
  simp at e
  subst e
  refine ⟨hi, fun x H2 y => ?_⟩
  obtain ⟨rfl, rfl⟩ := y
  exact ⟨Lat.refl _ _, R, .int _⟩
theorem log2_lt {n k : Nat} (h : n.log2 < k) : n < 2 ^ k := by
  by_cases e : n = 0
  · subst e; exact Nat.two_pow_pos k
  · exact (Nat.log2_lt e).mp h
theorem small_of {i : Int} (h : small i = true) : -(2 ^ 62) ≤ i ∧ i < 2 ^ 62 := by
  simp only [small, decide_eq_true_eq] at h
  have := log2_lt h
  omega
theorem i_r1 {p : Pos} (hg : Gl X "range") (hm : X.mg "range" = none) (ha : SA X cl W [a] fa) (hs : starEach [a] X.env = [(false, eval a X.env)] := by rfl) : SI X cl W tg (.Call (.Name "range" p) [a] [] pos) (iR1 fa) := PI.of (pi_range1 hg hm ha hs) fun σ H R p =>
  seqI (R1 := RL X.K) (k := fun xs h1 => match xs with | [.int j] => if small j then .ok (rangeD 0 j.toNat) h1 else .bad | _ => .bad) p (fun φ H1 h1 x v ds h2 R1 r e q => by
    split at e
    · split at e
      · rename_i j hj
        cases e
        obtain ⟨w, rfl, rw'⟩ := RepL.one r
        cases rw'
        exact ⟨j, rfl, (small_of hj).1, (small_of hj).2, q _ R1 (drv_rng 0 _)⟩
      · cases e
    · cases e) fun x h1 => by
      split
      · split <;> simp
      · simp
theorem i_r2 {p : Pos} (hg : Gl X "range") (hm : X.mg "range" = none) (ha : SA X cl W [a, b] fa) (hs : starEach [a, b] X.env = [(false, eval a X.env), (false, eval b X.env)] := by rfl) (hs2 : starEach [b] X.env = [(false, eval b X.env)] := by rfl) :
    SI X cl W tg (.Call (.Name "range" p) [a, b] [] pos) (iR2 fa) := PI.of (pi_range2 hg hm ha hs hs2) fun σ H R p =>
  seqI (R1 := RL X.K) (k := fun xs h1 => match xs with | [.int i, .int j] => if small i && small j then .ok (rangeD i (j - i).toNat) h1 else .bad | _ => .bad) p (fun φ H1 h1 x v ds h2 R1 r e q => by
    split at e
    · split at e
      · rename_i i j hj
        cases e
        rw [Bool.and_eq_true] at hj
        cases r with
        | cons r1 r2 =>
          obtain ⟨w, rfl, rw'⟩ := RepL.one r2
          cases rw'
          cases r1
          exact ⟨i, j, rfl, ⟨(small_of hj.1).1, (small_of hj.1).2, (small_of hj.2).1, (small_of hj.2).2⟩, q _ R1 (drv_rng i _)⟩
      · cases e
    · cases e) fun x h1 => by
      split
      · split <;> simp
      · simp
end

/-! ### for, while -/
section
variable {X : Cx} {cl : Nat → Addr} {W : WX} {tg iter c : Expr} {it : Iv} {it2 : Iv2} {g : Gv} {is : List Nat} {b : Sv} {t : Tv} {body : List Stmt} {pos : Pos}
theorem s_forX (hp : PassesOwn (model X.prog X.w) X.A X.env X.xe) (hc : X.calm = true) (hi : SI2 X cl W tg iter it2) (hg : SG X tg g is) (hb : SSs X cl W body b) (hs : ∀ x, foldedSetIterable iter X.env x = pure x := by intro _; rfl) :
    SS X cl W (.For tg iter body [] pos) (sForX it2 g b) := PS.of (ps_for hp hc hi hg hb hs) fun D σ H p => by
  obtain ⟨φ, st, h0, S, R0, P⟩ := p
  refine ⟨φ, st, h0, S, R0, ?_⟩
  unfold sForX at P
  cases e : it2 st h0 with
  | bad => simp only [e, Rs.out] at P; exact P
  | ex ex1 h1 =>
    simp only [e, Rs.out] at P
    intro φ' H' c d l r er
    exact P φ' H' c d σ l r (S.mono l) er
  | ok p h1 =>
    obtain ⟨src, ds⟩ := p
    simp only [e, Rs.out] at P
    intro φ1 H1 J l1 r1 dv
    dsimp only at dv
    generalize gd src ds = G at *
    refine ⟨fun i m σ2 H2 => m = ds.length - i ∧ i ≤ ds.length ∧ ∃ φ2 st2 h2, Lat φ1 H1 φ2 H2 ∧ SR X.K φ2 H2 st2 σ2 ∧ HR X.K φ2 H2 h2 ∧ PostS X.K cl φ2 H2 (forG G g b (ds.drop i) st2 h2) D W,
      ⟨_, rfl, Nat.zero_le _, φ1, st, h1, Lat.refl _ _, S.mono l1, r1, P.lat l1⟩, ?_⟩
    rintro i m σ2 H2 ⟨rfl, hi, φ2, st2, h2, l2, S2, r2, P2⟩
    by_cases lt : i < ds.length
    · rw [List.drop_eq_getElem_cons lt] at P2
      simp only [forG] at P2
      by_cases hG : G h2 = true
      case neg => rw [if_neg hG] at P2; exact P2.elim
      rw [if_pos hG] at P2
      obtain ⟨d1, d2⟩ := dv φ2 H2 h2 l2.wk r2 hG
      obtain ⟨go, yl⟩ := d1 i ds[i] (List.getElem?_eq_getElem lt)
      refine .inr ⟨go, fun σ' H' => ∃ φ3 st3 h3, Lat φ1 H1 φ3 H' ∧ SR X.K φ3 H' st3 σ' ∧ HR X.K φ3 H' h3 ∧ PostS X.K cl φ3 H' (forG G g b (ds.drop (i + 1)) st3 h3) D W, fun σ' H' n => ⟨ds.length - (i + 1), by omega, rfl, lt, n⟩, fun x H3 y => ?_⟩
      obtain ⟨l3, r3, rx⟩ := yl x H3 y
      cases e2 : g ds[i] st2 with
      | none => rw [e2] at P2; exact P2.elim
      | some st3 =>
        rw [e2] at P2
        refine ⟨φ2, st2, ds[i], st3, S2.mono l3, rx, e2, fun τ S3 _ => ⟨φ2, st3, h2, S3, r3, ?_⟩⟩
        have P3 := P2.lat l3
        have L := l2.trans l3
        simp only at P3
        cases e3 : b st3 h2 with
        | nx σ4 h4 =>
          simp only [e3] at P3
          exact fun φ' H' τ' l r s => ⟨φ', σ4, h4, L.trans l, s, r, P3.lat l⟩
        | ct σ4 h4 =>
          simp only [e3] at P3
          exact fun φ' H' τ' l r s => ⟨φ', σ4, h4, L.trans l, s, r, P3.lat l⟩
        | bk σ4 h4 => simp only [e3] at P3; exact P3
        | rt d h4 => simp only [e3] at P3; exact P3
        | rl d h4 => simp only [e3] at P3; exact P3
        | ex d σ4 h4 => simp only [e3] at P3; exact P3
        | bad => simp only [e3] at P3; exact P3
    · have ei : i = ds.length := by omega
      subst ei
      rw [List.drop_length] at P2
      simp only [forG] at P2
      by_cases hG : G h2 = true
      case neg => rw [if_neg hG] at P2; exact P2.elim
      rw [if_pos hG] at P2
      obtain ⟨d1, d2⟩ := dv φ2 H2 h2 l2.wk r2 hG
      exact .inl ⟨d2, P2 φ2 H2 σ2 (Lat.refl _ _) r2 S2⟩
theorem s_for (hp : PassesOwn (model X.prog X.w) X.A X.env X.xe) (hc : X.calm = true) (hi : SI X cl W tg iter it) (hg : SG X tg g is) (hb : SSs X cl W body b) (hs : ∀ x, foldedSetIterable iter X.env x = pure x := by intro _; rfl) :
    SS X cl W (.For tg iter body [] pos) (sFor it g b) := PS.of (ps_for hp hc hi hg hb hs) fun D σ H p => by
  obtain ⟨φ, st, h0, S, R0, P⟩ := p
  refine ⟨φ, st, h0, S, R0, ?_⟩
  unfold sFor at P
  cases e : it st h0 with
  | bad => simp only [e, Rs.out] at P; exact P
  | ex ex1 h1 =>
    simp only [e, Rs.out] at P
    intro φ' H' c d l r er
    exact P φ' H' c d σ l r (S.mono l) er
  | ok ds h1 =>
    simp only [e, Rs.out] at P
    intro φ1 H1 J l1 r1 dv
    refine ⟨fun i m σ2 H2 => m = ds.length - i ∧ i ≤ ds.length ∧ ∃ φ2 st2 h2, Lat φ1 H1 φ2 H2 ∧ SR X.K φ2 H2 st2 σ2 ∧ HR X.K φ2 H2 h2 ∧ PostS X.K cl φ2 H2 (forL g b (ds.drop i) st2 h2) D W,
      ⟨_, rfl, Nat.zero_le _, φ1, st, h1, Lat.refl _ _, S.mono l1, r1, P.lat l1⟩, ?_⟩
    rintro i m σ2 H2 ⟨rfl, hi, φ2, st2, h2, l2, S2, r2, P2⟩
    obtain ⟨d1, d2⟩ := dv φ2 H2 h2 l2.wk r2
    by_cases lt : i < ds.length
    · obtain ⟨go, yl⟩ := d1 i ds[i] (List.getElem?_eq_getElem lt)
      refine .inr ⟨go, fun σ' H' => ∃ φ3 st3 h3, Lat φ1 H1 φ3 H' ∧ SR X.K φ3 H' st3 σ' ∧ HR X.K φ3 H' h3 ∧ PostS X.K cl φ3 H' (forL g b (ds.drop (i + 1)) st3 h3) D W, fun σ' H' n => ⟨ds.length - (i + 1), by omega, rfl, lt, n⟩, fun x H3 y => ?_⟩
      obtain ⟨l3, r3, rx⟩ := yl x H3 y
      rw [List.drop_eq_getElem_cons lt] at P2
      simp only [forL] at P2
      cases e2 : g ds[i] st2 with
      | none => rw [e2] at P2; exact P2.elim
      | some st3 =>
        rw [e2] at P2
        refine ⟨φ2, st2, ds[i], st3, S2.mono l3, rx, e2, fun τ S3 _ => ⟨φ2, st3, h2, S3, r3, ?_⟩⟩
        have P3 := P2.lat l3
        have L := l2.trans l3
        simp only at P3
        cases e3 : b st3 h2 with
        | nx σ4 h4 =>
          simp only [e3] at P3
          exact fun φ' H' τ' l r s => ⟨φ', σ4, h4, L.trans l, s, r, P3.lat l⟩
        | ct σ4 h4 =>
          simp only [e3] at P3
          exact fun φ' H' τ' l r s => ⟨φ', σ4, h4, L.trans l, s, r, P3.lat l⟩
        | bk σ4 h4 => simp only [e3] at P3; exact P3
        | rt d h4 => simp only [e3] at P3; exact P3
        | rl d h4 => simp only [e3] at P3; exact P3
        | ex d σ4 h4 => simp only [e3] at P3; exact P3
        | bad => simp only [e3] at P3; exact P3
    · have ei : i = ds.length := by omega
      subst ei
      rw [List.drop_length] at P2
      exact .inl ⟨d2, P2 φ2 H2 σ2 (Lat.refl _ _) r2 S2⟩
theorem s_while (hp : PassesOwn (model X.prog X.w) X.A X.env X.xe) (hc : ST X cl W c t) (hb : SSs X cl W body b) : SS X cl W (.While c body [] pos) (sWhile t b) := PS.of (ps_while hp hc hb) fun D σ H p => by
  obtain ⟨φ, st, h0, S, R0, P⟩ := p
  refine ⟨fun m σ2 H2 => ∃ φ2 st2 h2, SR X.K φ2 H2 st2 σ2 ∧ HR X.K φ2 H2 h2 ∧ PostS X.K cl φ2 H2 (whileL t b m st2 h2) D W, ⟨_, φ, st, h0, S, R0, P⟩, ?_⟩
  rintro m σ2 H2 ⟨φ2, st2, h2, S2, r2, P2⟩
  cases m with
  | zero => exact P2.elim
  | succ m =>
    refine ⟨φ2, st2, h2, S2, r2, ?_⟩
    simp only [whileL] at P2
    cases e : t st2 h2 with
    | bad => simp only [e] at P2; exact P2
    | ex ex1 h1 =>
      simp only [e] at P2
      intro φ' H' c d l r er
      exact P2 φ' H' c d σ2 l r (S2.mono l) er
    | ok c3 h3 =>
      simp only [e] at P2
      intro φ3 H3 c4 l3 r3 ec
      cases (show c3 = c4 from ec)
      have P3 := P2.lat l3
      cases c3 with
      | false => exact P3 φ3 H3 σ2 (Lat.refl _ _) r3 (S2.mono l3)
      | true =>
        rw [if_pos rfl]
        rw [if_pos rfl] at P3
        refine ⟨fun σ' H' => ∃ φ2 st2 h2, SR X.K φ2 H' st2 σ' ∧ HR X.K φ2 H' h2 ∧ PostS X.K cl φ2 H' (whileL t b m st2 h2) D W, fun σ' H' n => ⟨m, Nat.lt_succ_self _, n⟩, φ3, st2, h3, S2.mono l3, r3, ?_⟩
        cases e3 : b st2 h3 with
        | nx σ4 h4 =>
          simp only [e3] at P3
          exact fun φ' H' τ' l r s => ⟨φ', σ4, h4, s, r, P3.lat l⟩
        | ct σ4 h4 =>
          simp only [e3] at P3
          exact fun φ' H' τ' l r s => ⟨φ', σ4, h4, s, r, P3.lat l⟩
        | bk σ4 h4 => simp only [e3] at P3; exact P3
        | rt d h4 => simp only [e3] at P3; exact P3
        | rl d h4 => simp only [e3] at P3; exact P3
        | ex d σ4 h4 => simp only [e3] at P3; exact P3
        | bad => simp only [e3] at P3; exact P3
end

/-! ### comprehensions -/
abbrev W0 : WX := fun _ _ _ _ => False
abbrev STs (X : Cx) (cl : Nat → Addr) (W : WX) (es : List Expr) (f : Tv) : Prop := PTs X es (tG X.K cl W RBool f)
section
variable {X : Cx} {cl : Nat → Addr} {W : WX} {elt tg iter c : Expr} {ifs : List Expr} {it : Iv} {it2 : Iv2} {g : Gv} {is : List Nat} {t : Tv} {f : Ev} {scope : Scope} {own : List (Str × Nat)} {pos : Pos}
theorem ts_nil : STs X cl W [] tYes := ⟨fun pins s σ H Q I ⟨φ, st, h0, S, R, P⟩ => pts_nil.run pins s σ H Q I (P.val R rfl)⟩
theorem ts_one (h : ST X cl W c t) : STs X cl W [c] t := pts_one h
theorem Lat.tmp {φ0 φ : List Addr} {H0 H : Hp} {D : Addr} {u v : HO} (l : Lat φ0 H0 φ H) (n : H0 D = none) (e : H D = some u) (m : mutO u = true) : Lat φ0 H0 φ (upd H D v) :=
  ⟨l.pre, l.per.trans (Per.wr e m), fun b o q w => by rw [upd_ne (ne_of_none q n)]; exact l.keep b o q w, l.fresh⟩
theorem comp_goX (his : ∀ i ∈ is, i ∈ own.map (·.2)) {σ : L2.St} {H : Hp} {Q : VK} (p : tG X.K cl W (Fresh X.K) (lCompX it2 g t f (own.map (·.2))) σ H Q) :
    tLc (tI2 X.K cl W it2) (tGv X.K g is) (tG X.K cl W0 RBool t) (tG X.K cl W0 (RR X.K) f) (own.map (·.2)) σ H Q := by
  obtain ⟨φ, st, h0, S, R0, P⟩ := p
  refine ⟨φ, st, h0, S, R0, ?_⟩
  unfold lCompX at P
  cases e : it2 st h0 with
  | bad => simp only [e, Rs.bind] at P; exact P
  | ex ex1 h1 => simp only [e, Rs.bind] at P; exact P
  | ok p h1 =>
    obtain ⟨src, ds⟩ := p
    simp only [e, Rs.bind] at P
    intro φ1 H1 J l1 r1 dv D hD
    dsimp only at dv
    generalize gd src ds = G at *
    -- what comes out
    cases e1 : compG G g t f (unset st (own.map (·.2))) ds h1 with
    | bad => rw [e1] at P; exact P.elim
    | ex ex1 h2 =>
      -- nothing raises within
      exfalso
      have no : ∀ (ds : List Y.D) (h : Hm) ex1 h2, compG G g t f (unset st (own.map (·.2))) ds h ≠ .ex ex1 h2 := by
        intro ds
        induction ds with
        | nil => intro h ex1 h2 q; simp only [compG] at q; split at q <;> cases q
        | cons d ds ih =>
          intro h ex1 h2 q
          simp only [compG] at q
          split at q
          case isFalse => cases q
          split at q
          · cases q
          · rename_i σ1 _
            cases a1 : t σ1 h with
            | bad => simp [a1, Rs.bindN] at q
            | ex _ _ => simp [a1, Rs.bindN] at q
            | ok c1 h3 =>
              simp only [a1, Rs.bindN] at q
              split at q
              · cases a2 : f σ1 h3 with
                | bad => simp [a2] at q
                | ex _ _ => simp [a2] at q
                | ok y h4 =>
                  simp only [a2] at q
                  cases a3 : compG G g t f (unset st (own.map (·.2))) ds h4 <;> simp [a3] at q
              · exact ih h3 ex1 h2 q
      exact no _ _ _ _ e1
    | ok res hf =>
      rw [e1] at P
      simp only at P
      split at P
      · rename_i hlen
        have nD1 : D ∉ φ1 := r1.notin hD
        have nD0 : H D = none := l1.gone nD1 hD
        refine ⟨fun i m H2 => m = ds.length - i ∧ i ≤ ds.length ∧ ∃ φ2 h2 acc accV ys, Lat φ1 H1 φ2 H2 ∧ HR X.K φ2 H2 h2 ∧ D ∉ φ2 ∧ H2 D = some (.lst accV) ∧ RepL X.K φ2 H2 acc accV ∧ compG G g t f (unset st (own.map (·.2))) (ds.drop i) h2 = .ok ys hf ∧ acc ++ ys = res,
          ⟨_, rfl, Nat.zero_le _, φ1, h1, [], [], res, Lat.new hD, r1.new hD, nD1, upd_same, .nil, e1, rfl⟩, ?_⟩
        rintro i m H2 ⟨rfl, hi, φ2, h2, acc, accV, ys, l2, r2, nD2, eD, ra, ec, er⟩
        by_cases lt : i < ds.length
        · rw [List.drop_eq_getElem_cons lt] at ec
          simp only [compG] at ec
          by_cases hG : G h2 = true
          case neg => rw [if_neg hG] at ec; cases ec
          rw [if_pos hG] at ec
          obtain ⟨d1, d2⟩ := dv φ2 H2 h2 l2.wk r2 hG
          obtain ⟨go, yl⟩ := d1 i ds[i] (List.getElem?_eq_getElem lt)
          refine .inr ⟨go, fun H' => ∃ φ2 h2 acc accV ys, Lat φ1 H1 φ2 H' ∧ HR X.K φ2 H' h2 ∧ D ∉ φ2 ∧ H' D = some (.lst accV) ∧ RepL X.K φ2 H' acc accV ∧ compG G g t f (unset st (own.map (·.2))) (ds.drop (i + 1)) h2 = .ok ys hf ∧ acc ++ ys = res,
            fun H' n => ⟨ds.length - (i + 1), by omega, rfl, lt, n⟩, fun x H3 y => ?_⟩
          obtain ⟨l3, r3, rx⟩ := yl x H3 y
          cases e2 : g ds[i] (unset st (own.map (·.2))) with
          | none => rw [e2] at ec; cases ec
          | some st3 =>
            rw [e2] at ec
            have L3 := l2.trans l3
            have S3 : SR X.K φ2 H3 (unset st (own.map (·.2))) (wipe σ (own.map (·.2))) := (S.mono (l1.trans L3)).unset _
            refine ⟨φ2, _, ds[i], st3, S3, rx, e2, fun τ S4 ch => ⟨by rw [ch.wipe his, wipe_wipe], φ2, st3, h2, S4, r3, ?_⟩⟩
            simp only at ec
            cases e3 : t st3 h2 with
            | bad => simp [e3, Rs.bindN] at ec
            | ex _ _ => simp [e3, Rs.bindN] at ec
            | ok c1 h4 =>
              simp only [e3, Rs.bindN] at ec
              intro φ4 H4 c2 l4 r4 ecc
              cases (show c1 = c2 from ecc)
              have L4 := L3.trans l4
              have eD4 : H4 D = some (.lst accV) := (l3.trans l4).keep D _ eD nD2
              have nD4 : D ∉ φ4 := (l3.trans l4).out eD nD2
              have ra4 := RepL.mono (l3.trans l4).pre (l3.trans l4).per _ _ ra
              cases c1 with
              | false =>
                rw [if_neg Bool.false_ne_true]
                rw [if_neg Bool.false_ne_true] at ec
                exact ⟨φ4, h4, acc, accV, ys, L4, r4, nD4, eD4, ra4, ec, er⟩
              | true =>
                rw [if_pos rfl]
                rw [if_pos rfl] at ec
                refine ⟨φ4, st3, h4, S4.mono l4, r4, ?_⟩
                cases e5 : f st3 h4 with
                | bad => simp [e5] at ec
                | ex _ _ => simp [e5] at ec
                | ok y1 h5 =>
                  simp only [e5] at ec
                  intro φ5 H5 yv l5 r5 ry
                  cases e6 : compG G g t f (unset st (own.map (·.2))) (ds.drop (i + 1)) h5 with
                  | bad => simp [e6] at ec
                  | ex _ _ => simp [e6] at ec
                  | ok ys1 h6 =>
                    simp only [e6, Rs.ok.injEq] at ec
                    obtain ⟨ec1, ec2⟩ := ec
                    subst ec2
                    subst ec1
                    have eD5 : H5 D = some (.lst accV) := l5.keep D _ eD4 nD4
                    have ra5 := RepL.mono l5.pre l5.per _ _ ra4
                    refine ⟨accV, eD5, ?_, φ5, h5, acc ++ [y1], accV ++ [yv], ys1, Lat.tmp (L4.trans l5) hD eD5 rfl, r5.out (l5.out eD4 nD4) eD5 rfl, l5.out eD4 nD4, upd_same, ?_, e6, by simp [← er]⟩
                    · have := congrArg List.length er
                      simp at this
                      rw [← ra.length, ← line_eq]
                      omega
                    · exact RepL.mono (List.prefix_refl _) (Per.wr eD5 rfl) _ _ (ra5.append (.cons ry .nil))
        · have ei : i = ds.length := by omega
          subst ei
          rw [List.drop_length] at ec
          simp only [compG] at ec
          by_cases hG : G h2 = true
          case neg => rw [if_neg hG] at ec; cases ec
          rw [if_pos hG] at ec
          obtain ⟨d1, d2⟩ := dv φ2 H2 h2 l2.wk r2 hG
          simp only [Rs.ok.injEq] at ec
          obtain ⟨rfl, rfl⟩ := ec
          rw [List.append_nil] at er
          subst er
          exact .inl ⟨d2, P φ2 H2 _ (l1.trans l2) r2 ⟨D, accV, rfl, nD0, nD2, eD, ra⟩⟩
      · exact P.elim
theorem comp_go (his : ∀ i ∈ is, i ∈ own.map (·.2)) {σ : L2.St} {H : Hp} {Q : VK} (p : tG X.K cl W (Fresh X.K) (lComp it g t f (own.map (·.2))) σ H Q) :
    tLc (tI X.K cl W it) (tGv X.K g is) (tG X.K cl W0 RBool t) (tG X.K cl W0 (RR X.K) f) (own.map (·.2)) σ H Q := by
  obtain ⟨φ, st, h0, S, R0, P⟩ := p
  refine ⟨φ, st, h0, S, R0, ?_⟩
  unfold lComp at P
  cases e : it st h0 with
  | bad => simp only [e, Rs.bind] at P; exact P
  | ex ex1 h1 => simp only [e, Rs.bind] at P; exact P
  | ok ds h1 =>
    simp only [e, Rs.bind] at P
    intro φ1 H1 J l1 r1 dv D hD
    -- what comes out
    cases e1 : compL g t f (unset st (own.map (·.2))) ds h1 with
    | bad => rw [e1] at P; exact P.elim
    | ex ex1 h2 =>
      -- nothing raises within
      exfalso
      have no : ∀ (ds : List Y.D) (h : Hm) ex1 h2, compL g t f (unset st (own.map (·.2))) ds h ≠ .ex ex1 h2 := by
        intro ds
        induction ds with
        | nil => intro h ex1 h2 q; simp [compL] at q
        | cons d ds ih =>
          intro h ex1 h2 q
          simp only [compL] at q
          split at q
          · cases q
          · rename_i σ1 _
            cases a1 : t σ1 h with
            | bad => simp [a1, Rs.bindN] at q
            | ex _ _ => simp [a1, Rs.bindN] at q
            | ok c1 h3 =>
              simp only [a1, Rs.bindN] at q
              split at q
              · cases a2 : f σ1 h3 with
                | bad => simp [a2] at q
                | ex _ _ => simp [a2] at q
                | ok y h4 =>
                  simp only [a2] at q
                  cases a3 : compL g t f (unset st (own.map (·.2))) ds h4 <;> simp [a3] at q
              · exact ih h3 ex1 h2 q
      exact no _ _ _ _ e1
    | ok res hf =>
      rw [e1] at P
      simp only at P
      split at P
      · rename_i hlen
        have nD1 : D ∉ φ1 := r1.notin hD
        have nD0 : H D = none := l1.gone nD1 hD
        refine ⟨fun i m H2 => m = ds.length - i ∧ i ≤ ds.length ∧ ∃ φ2 h2 acc accV ys, Lat φ1 H1 φ2 H2 ∧ HR X.K φ2 H2 h2 ∧ D ∉ φ2 ∧ H2 D = some (.lst accV) ∧ RepL X.K φ2 H2 acc accV ∧ compL g t f (unset st (own.map (·.2))) (ds.drop i) h2 = .ok ys hf ∧ acc ++ ys = res,
          ⟨_, rfl, Nat.zero_le _, φ1, h1, [], [], res, Lat.new hD, r1.new hD, nD1, upd_same, .nil, e1, rfl⟩, ?_⟩
        rintro i m H2 ⟨rfl, hi, φ2, h2, acc, accV, ys, l2, r2, nD2, eD, ra, ec, er⟩
        obtain ⟨d1, d2⟩ := dv φ2 H2 h2 l2.wk r2
        by_cases lt : i < ds.length
        · obtain ⟨go, yl⟩ := d1 i ds[i] (List.getElem?_eq_getElem lt)
          refine .inr ⟨go, fun H' => ∃ φ2 h2 acc accV ys, Lat φ1 H1 φ2 H' ∧ HR X.K φ2 H' h2 ∧ D ∉ φ2 ∧ H' D = some (.lst accV) ∧ RepL X.K φ2 H' acc accV ∧ compL g t f (unset st (own.map (·.2))) (ds.drop (i + 1)) h2 = .ok ys hf ∧ acc ++ ys = res,
            fun H' n => ⟨ds.length - (i + 1), by omega, rfl, lt, n⟩, fun x H3 y => ?_⟩
          obtain ⟨l3, r3, rx⟩ := yl x H3 y
          rw [List.drop_eq_getElem_cons lt] at ec
          simp only [compL] at ec
          cases e2 : g ds[i] (unset st (own.map (·.2))) with
          | none => rw [e2] at ec; cases ec
          | some st3 =>
            rw [e2] at ec
            have L3 := l2.trans l3
            have S3 : SR X.K φ2 H3 (unset st (own.map (·.2))) (wipe σ (own.map (·.2))) := (S.mono (l1.trans L3)).unset _
            refine ⟨φ2, _, ds[i], st3, S3, rx, e2, fun τ S4 ch => ⟨by rw [ch.wipe his, wipe_wipe], φ2, st3, h2, S4, r3, ?_⟩⟩
            simp only at ec
            cases e3 : t st3 h2 with
            | bad => simp [e3, Rs.bindN] at ec
            | ex _ _ => simp [e3, Rs.bindN] at ec
            | ok c1 h4 =>
              simp only [e3, Rs.bindN] at ec
              intro φ4 H4 c2 l4 r4 ecc
              cases (show c1 = c2 from ecc)
              have L4 := L3.trans l4
              have eD4 : H4 D = some (.lst accV) := (l3.trans l4).keep D _ eD nD2
              have nD4 : D ∉ φ4 := (l3.trans l4).out eD nD2
              have ra4 := RepL.mono (l3.trans l4).pre (l3.trans l4).per _ _ ra
              cases c1 with
              | false =>
                rw [if_neg Bool.false_ne_true]
                rw [if_neg Bool.false_ne_true] at ec
                exact ⟨φ4, h4, acc, accV, ys, L4, r4, nD4, eD4, ra4, ec, er⟩
              | true =>
                rw [if_pos rfl]
                rw [if_pos rfl] at ec
                refine ⟨φ4, st3, h4, S4.mono l4, r4, ?_⟩
                cases e5 : f st3 h4 with
                | bad => simp [e5] at ec
                | ex _ _ => simp [e5] at ec
                | ok y1 h5 =>
                  simp only [e5] at ec
                  intro φ5 H5 yv l5 r5 ry
                  cases e6 : compL g t f (unset st (own.map (·.2))) (ds.drop (i + 1)) h5 with
                  | bad => simp [e6] at ec
                  | ex _ _ => simp [e6] at ec
                  | ok ys1 h6 =>
                    simp only [e6, Rs.ok.injEq] at ec
                    obtain ⟨ec1, ec2⟩ := ec
                    subst ec2
                    subst ec1
                    have eD5 : H5 D = some (.lst accV) := l5.keep D _ eD4 nD4
                    have ra5 := RepL.mono l5.pre l5.per _ _ ra4
                    refine ⟨accV, eD5, ?_, φ5, h5, acc ++ [y1], accV ++ [yv], ys1, Lat.tmp (L4.trans l5) hD eD5 rfl, r5.out (l5.out eD4 nD4) eD5 rfl, l5.out eD4 nD4, upd_same, ?_, e6, by simp [← er]⟩
                    · have := congrArg List.length er
                      simp at this
                      rw [← ra.length, ← line_eq]
                      omega
                    · exact RepL.mono (List.prefix_refl _) (Per.wr eD5 rfl) _ _ (ra5.append (.cons ry .nil))
        · have ei : i = ds.length := by omega
          subst ei
          rw [List.drop_length] at ec
          simp only [compL, Rs.ok.injEq] at ec
          obtain ⟨rfl, rfl⟩ := ec
          rw [List.append_nil] at er
          subst er
          exact .inl ⟨d2, P φ2 H2 _ (l1.trans l2) r2 ⟨D, accV, rfl, nD0, nD2, eD, ra⟩⟩
      · exact P.elim
theorem l_comp {k : Nat} (c0 : Cs k X) (hi : SI X cl W tg iter it) (ok : BlkOk X.N X.env.scope scope own) (his : ∀ i ∈ is, i ∈ own.map (·.2))
    (hg : ∀ (s : Shared) (H : Hp) (C : Addr) (cc : List (Str × Addr)) (fp : List Addr), SG (X.blk s H scope (compEnvC scope cc C X.env) fp) tg g is)
    (ht : ∀ (s : Shared) (H : Hp) (C : Addr) (cc : List (Str × Addr)) (fp : List Addr), STs (X.blk s H scope (compEnvC scope cc C X.env) fp) cl W0 ifs t)
    (he : ∀ (s : Shared) (H : Hp) (C : Addr) (cc : List (Str × Addr)) (fp : List Addr), SE (X.blk s H scope (compEnvC scope cc C X.env) fp) cl W0 elt f) (hs : ∀ x, foldedSetIterable iter X.env x = pure x := by intro _; rfl) :
    SL X cl W (.ListComp elt [⟨tg, iter, ifs, 0⟩] scope pos) (lComp it g t f (own.map (·.2))) := PE.of (pe_lc c0.calm c0.nd hi ok hg ht he hs) fun σ H Q p => comp_go his p
/-- x = [..], frozen -/
theorem s_setComp {k i : Nat} {y : Str} {py spos : Pos} (c0 : Cs k X) (hy : X.N[i]? = some y) (hyl : X.env.scope.names.lookup y = some .local)
    (hsw : swapsWith (.ListComp elt [⟨tg, iter, ifs, 0⟩] scope pos) (some (.Name y py)) spos.line X.env = pure true) (hi : SI X cl W tg iter it) (ok : BlkOk X.N X.env.scope scope own) (his : ∀ i ∈ is, i ∈ own.map (·.2))
    (hg : ∀ (s : Shared) (H : Hp) (C : Addr) (cc : List (Str × Addr)) (fp : List Addr), SG (X.blk s H scope (compEnvC scope cc C X.env) fp) tg g is)
    (ht : ∀ (s : Shared) (H : Hp) (C : Addr) (cc : List (Str × Addr)) (fp : List Addr), STs (X.blk s H scope (compEnvC scope cc C X.env) fp) cl W0 ifs t)
    (he : ∀ (s : Shared) (H : Hp) (C : Addr) (cc : List (Str × Addr)) (fp : List Addr), SE (X.blk s H scope (compEnvC scope cc C X.env) fp) cl W0 elt f) (hs : ∀ x, foldedSetIterable iter X.env x = pure x := by intro _; rfl) :
    SS X cl W (.Assign [.Name y py] (.ListComp elt [⟨tg, iter, ifs, 0⟩] scope pos) spos) (sAsg (gN i) (eFrz (lComp it g t f (own.map (·.2))))) := by
  refine ⟨fun pins s σ H D I p => ?_⟩
  have q := (ps_setLc (g := tGv X.K g is) (tt := tG X.K cl W0 RBool t) (te := tG X.K cl W0 (RR X.K) f) c0.calm c0.nd hy hyl hsw hi ok hg ht he hs).run pins s σ H { D with nx := fun τ H1 => ∃ a vs, τ = σ.set i (some (.ref a)) ∧ H1 a = some (.lst vs) ∧ ∀ o, D.nx τ (upd H1 a (.frz o (.lst vs))) } I (by
    refine comp_go (W := W) (cl := cl) (t := t) (f := f) his ?_
    obtain ⟨φ, st, h0, S, R0, P⟩ := p
    refine ⟨φ, st, h0, S, R0, ?_⟩
    simp only [sAsg, eFrz] at P
    cases e : lComp it g t f (own.map (·.2)) st h0 with
    | bad => simp only [e, Rs.bind, Rs.out] at P; exact P
    | ex ex1 h1 =>
      simp only [e, Rs.bind, Rs.out] at P
      exact fun φ' H' c d l r er => P φ' H' c d σ l r (S.mono l) er
    | ok ds h1 =>
      simp only [e, Rs.bind, gN, Rs.out, outO] at P
      rintro φ' H' v l r ⟨a, vs, rfl, n0, nn, ea, rr⟩
      refine ⟨a, vs, rfl, ea, fun o => ?_⟩
      obtain ⟨l2, x2, y2⟩ := Fresh.frz (o := o) l n0 r nn ea rr
      exact P φ' _ _ l2 x2 ((S.mono l2).set i y2))
  refine thn q fun fl s1 h1 => ?_
  cases fl with
  | next =>
    obtain ⟨σ', H', I', a, vs, rfl, e1, e2⟩ := h1
    obtain ⟨o, I2⟩ := inv_frz I' e1
    exact ⟨_, _, I2, e2 o⟩
  | brk => exact h1
  | cont => exact h1
  | ret u => exact h1
theorem l_compX {k : Nat} (c0 : Cs k X) (hi : SI2 X cl W tg iter it2) (ok : BlkOk X.N X.env.scope scope own) (his : ∀ i ∈ is, i ∈ own.map (·.2))
    (hg : ∀ (s : Shared) (H : Hp) (C : Addr) (cc : List (Str × Addr)) (fp : List Addr), SG (X.blk s H scope (compEnvC scope cc C X.env) fp) tg g is)
    (ht : ∀ (s : Shared) (H : Hp) (C : Addr) (cc : List (Str × Addr)) (fp : List Addr), STs (X.blk s H scope (compEnvC scope cc C X.env) fp) cl W0 ifs t)
    (he : ∀ (s : Shared) (H : Hp) (C : Addr) (cc : List (Str × Addr)) (fp : List Addr), SE (X.blk s H scope (compEnvC scope cc C X.env) fp) cl W0 elt f) (hs : ∀ x, foldedSetIterable iter X.env x = pure x := by intro _; rfl) :
    SL X cl W (.ListComp elt [⟨tg, iter, ifs, 0⟩] scope pos) (lCompX it2 g t f (own.map (·.2))) := PE.of (pe_lc c0.calm c0.nd hi ok hg ht he hs) fun σ H Q p => comp_goX his p
theorem s_setCompX {k i : Nat} {y : Str} {py spos : Pos} (c0 : Cs k X) (hy : X.N[i]? = some y) (hyl : X.env.scope.names.lookup y = some .local)
    (hsw : swapsWith (.ListComp elt [⟨tg, iter, ifs, 0⟩] scope pos) (some (.Name y py)) spos.line X.env = pure true) (hi : SI2 X cl W tg iter it2) (ok : BlkOk X.N X.env.scope scope own) (his : ∀ i ∈ is, i ∈ own.map (·.2))
    (hg : ∀ (s : Shared) (H : Hp) (C : Addr) (cc : List (Str × Addr)) (fp : List Addr), SG (X.blk s H scope (compEnvC scope cc C X.env) fp) tg g is)
    (ht : ∀ (s : Shared) (H : Hp) (C : Addr) (cc : List (Str × Addr)) (fp : List Addr), STs (X.blk s H scope (compEnvC scope cc C X.env) fp) cl W0 ifs t)
    (he : ∀ (s : Shared) (H : Hp) (C : Addr) (cc : List (Str × Addr)) (fp : List Addr), SE (X.blk s H scope (compEnvC scope cc C X.env) fp) cl W0 elt f) (hs : ∀ x, foldedSetIterable iter X.env x = pure x := by intro _; rfl) :
    SS X cl W (.Assign [.Name y py] (.ListComp elt [⟨tg, iter, ifs, 0⟩] scope pos) spos) (sAsg (gN i) (eFrz (lCompX it2 g t f (own.map (·.2))))) := by
  refine ⟨fun pins s σ H D I p => ?_⟩
  have q := (ps_setLc (g := tGv X.K g is) (tt := tG X.K cl W0 RBool t) (te := tG X.K cl W0 (RR X.K) f) c0.calm c0.nd hy hyl hsw hi ok hg ht he hs).run pins s σ H { D with nx := fun τ H1 => ∃ a vs, τ = σ.set i (some (.ref a)) ∧ H1 a = some (.lst vs) ∧ ∀ o, D.nx τ (upd H1 a (.frz o (.lst vs))) } I (by
    refine comp_goX (W := W) (cl := cl) (t := t) (f := f) his ?_
    obtain ⟨φ, st, h0, S, R0, P⟩ := p
    refine ⟨φ, st, h0, S, R0, ?_⟩
    simp only [sAsg, eFrz] at P
    cases e : lCompX it2 g t f (own.map (·.2)) st h0 with
    | bad => simp only [e, Rs.bind, Rs.out] at P; exact P
    | ex ex1 h1 =>
      simp only [e, Rs.bind, Rs.out] at P
      exact fun φ' H' c d l r er => P φ' H' c d σ l r (S.mono l) er
    | ok ds h1 =>
      simp only [e, Rs.bind, gN, Rs.out, outO] at P
      rintro φ' H' v l r ⟨a, vs, rfl, n0, nn, ea, rr⟩
      refine ⟨a, vs, rfl, ea, fun o => ?_⟩
      obtain ⟨l2, x2, y2⟩ := Fresh.frz (o := o) l n0 r nn ea rr
      exact P φ' _ _ l2 x2 ((S.mono l2).set i y2))
  refine thn q fun fl s1 h1 => ?_
  cases fl with
  | next =>
    obtain ⟨σ', H', I', a, vs, rfl, e1, e2⟩ := h1
    obtain ⟨o, I2⟩ := inv_frz I' e1
    exact ⟨_, _, I2, e2 o⟩
  | brk => exact h1
  | cont => exact h1
  | ret u => exact h1
end
end Y
end

section
set_option Elab.async false
set_option linter.all false
set_option maxRecDepth 100000
set_option maxHeartbeats 2000000
/-! YH: statements, displays of dicts, defs and their calls, the law's end. -/
namespace Y
open PySem PySem.Spec PyProof.Rows L2

section
variable {X : Cx} {cl : Nat → Addr} {W : WX} {e a b o i : Expr} {es : List Expr} {f g q : Ev} {fl : Lv} {fa : Av} {t t' : Tv} {pos : Pos} {k : Nat} {u v : Sv} {st : Stmt} {rest body els : List Stmt}
/-- an evaluation within a statement -/
theorem seqO {γ δ : Type} {Rel : RT γ δ} {f : Sl → Hm → Rs γ} {k : Sl → γ → Hm → Out} {σ : L2.St} {H : Hp} {D : Ends} {R : δ → Hp → Prop} (p : tSt X.K cl W (fun σ h => (f σ h).out σ fun d h1 => k σ d h1) D σ H)
    (h : ∀ φ0 st φ H1 h1 x w, Lat φ0 H φ H1 → SR X.K φ H1 st σ → HR X.K φ H1 h1 → Rel H φ H1 x w → (∀ φ' H', Lat φ0 H φ' H' → PostS X.K cl φ' H' (k st x h1) D W) → R w H1) : tG X.K cl W Rel f σ H R := by
  obtain ⟨φ, st, h0, S, R0, P⟩ := p
  refine ⟨φ, st, h0, S, R0, ?_⟩
  cases e : f st h0 with
  | bad => simp only [e, Rs.out] at P; exact P
  | ex ex1 h1 =>
    simp only [e, Rs.out] at P
    exact fun φ' H' c d l r er => P φ' H' c d σ l r (S.mono l) er
  | ok x h1 =>
    simp only [e, Rs.out] at P
    exact fun φ1 H1 w l1 r1 q1 => h φ st φ1 H1 h1 x w l1 (S.mono l1) r1 q1 fun φ' H' l => P.lat l
theorem ss_nil : SSs X cl W [] sPass := PSs.of pss_nil fun D σ H ⟨φ, st, h, S, R, P⟩ => P φ H σ (Lat.refl _ _) R S
theorem ss_cons (h1 : SS X cl W st u) (h2 : SSs X cl W rest v) : SSs X cl W (st :: rest) (sSeq u v) := PSs.of (pss_cons h1 h2) fun D σ H ⟨φ, st, h, S, R, P⟩ => by
  refine ⟨φ, st, h, S, R, ?_⟩
  simp only [sSeq] at P
  cases e : u st h with
  | nx σ1 h1 =>
    simp only [e] at P
    exact fun φ' H' τ l r s => ⟨φ', σ1, h1, s, r, P.lat l⟩
  | bk _ _ => simp only [e] at P; exact P
  | ct _ _ => simp only [e] at P; exact P
  | rt _ _ => simp only [e] at P; exact P
  | rl _ _ => simp only [e] at P; exact P
  | ex _ _ _ => simp only [e] at P; exact P
  | bad => simp only [e] at P; exact P
theorem ss_one (h1 : SS X cl W st u) : SSs X cl W [st] u := pss_one h1
theorem s_pass : SS X cl W (.Pass pos) sPass := PS.of ps_pass fun D σ H ⟨φ, st, h, S, R, P⟩ => P φ H σ (Lat.refl _ _) R S
theorem s_bk : SS X cl W (.Break pos) sBk := PS.of ps_break fun D σ H ⟨φ, st, h, S, R, P⟩ => P φ H σ (Lat.refl _ _) R S
theorem s_ct : SS X cl W (.Continue pos) sCt := PS.of ps_continue fun D σ H ⟨φ, st, h, S, R, P⟩ => P φ H σ (Lat.refl _ _) R S
theorem s_never : SS X cl W st sNever := PS.of ps_never fun D σ H ⟨φ, st, h, S, R, P⟩ => P
theorem s_ifS {c : Expr} (hc : ST X cl W c t) (ha : SSs X cl W body u) (hb : SSs X cl W els v) : SS X cl W (.If c body els pos) (sIf t u v) := PS.of (ps_if hc ha hb) fun D σ H p =>
  seqO (Rel := RBool) (k := fun σ t h1 => if t = true then u σ h1 else v σ h1) p fun φ0 st φ H1 h1 x w l S R r P => by
    cases (show x = w from r)
    cases x with
    | true => exact ⟨φ, st, h1, S, R, P _ _ l⟩
    | false => exact ⟨φ, st, h1, S, R, P _ _ l⟩
theorem s_ret (h : SE X cl W e f) : SS X cl W (.Return (some e) pos) (sRet f) := PS.of (ps_ret h) fun D σ H p =>
  seqO (Rel := RR X.K) (k := fun _ d h1 => Out.rt d h1) p fun φ0 st φ H1 h1 x w l S R r P => P _ _ l φ H1 w (Lat.refl _ _) R r
theorem s_retN : SS X cl W (.Return none pos) sRetN := PS.of ps_retN fun D σ H ⟨φ, st, h, S, R, P⟩ => P φ H _ (Lat.refl _ _) R .non
theorem s_retL (h : SL X cl W e fl) : SS X cl W (.Return (some e) pos) (sRetL fl) := PS.of (ps_ret h) fun D σ H ⟨φ, st, h0, S, R0, P⟩ => by
  refine ⟨φ, st, h0, S, R0, ?_⟩
  simp only [sRetL] at P
  cases e : fl st h0 with
  | bad => simp only [e, Rs.out] at P; exact P
  | ex ex1 h1 =>
    simp only [e, Rs.out] at P
    exact fun φ' H' c d l r er => P φ' H' c d σ l r (S.mono l) er
  | ok x h1 =>
    simp only [e, Rs.out] at P
    exact fun φ1 H1 w l1 r1 q1 => P φ1 H1 w l1 r1 q1
theorem s_expr (h : SE X cl W e f) (hs : swapsWith e none pos.line X.env = pure false := by rfl) : SS X cl W (.Expr e pos) (sExpr f) := PS.of (ps_expr h hs) fun D σ H p =>
  seqO (Rel := RR X.K) (k := fun σ _ h1 => Out.nx σ h1) p fun φ0 st φ H1 h1 x w l S R r P => P _ _ l φ H1 σ (Lat.refl _ _) R S
/-- target = value -/
theorem s_asg {tg : Expr} {gv : Gv} {is : List Nat} (h : SE X cl W e f) (hg : SG X tg gv is) (hs : swapsWithSole [tg] e pos.line X.env = pure false := by rfl) (hw : swappedStores [tg] e X.env = pure none := by rfl) (h1 : (assignEach [tg] X.env).map (·.2) = [assign tg X.env] := by rfl) :
    SS X cl W (.Assign [tg] e pos) (sAsg gv f) := PS.of (ps_asg h hg hs hw h1) fun D σ H p =>
  seqO (Rel := RR X.K) (k := fun σ d h1 => outO (gv d σ) h1) p fun φ0 st φ H1 h1 x w l S R r P => by
    have P := P _ _ l
    cases e : gv x st with
    | none => rw [e] at P; exact P.elim
    | some st1 =>
      rw [e] at P
      exact ⟨φ, st, x, st1, S, r, e, fun τ S' _ => P φ H1 τ (Lat.refl _ _) R S'⟩
theorem s_set {j : Nat} {x : Str} {p' : Pos} (hN : X.N.Nodup) (h : SE X cl W e f) (hi : X.N[j]? = some x := by rfl) (hx : Loc X.env.scope x := by first | exact Or.inl rfl | exact Or.inr rfl) (hs : swapsWith e (some (.Name x p')) pos.line X.env = pure false := by rfl) (hf : X.fn x = true ∨ X.env.scope.names.lookup x = some .local := by first | exact .inl rfl | exact .inr rfl | assumption) :
    SS X cl W (.Assign [.Name x p'] e pos) (sAsg (gN j) f) := PS.of (ps_set hN hi hx h hs hf) fun D σ H p =>
  seqO (Rel := RR X.K) (k := fun σ d h1 => outO (gN j d σ) h1) p fun φ0 st φ H1 h1 x w l S R r P => P _ _ l φ H1 _ (Lat.refl _ _) R (S.set j r)
/-- a, b = x, y, two plain locals -/
theorem s_par {j l : Nat} {x y : Str} {px py pt pt2 : Pos} {n n2 : Nat} (hc : X.calm = true) (hN : X.N.Nodup) (ha : SA X cl W [a, b] fa) (hi : X.N[j]? = some x := by rfl) (hj : X.N[l]? = some y := by rfl) (hij : j ≠ l := by decide)
    (hx : X.env.scope.names.lookup x = some .local := by rfl) (hy : X.env.scope.names.lookup y = some .local := by rfl)
    (hw : swappedStores [.Tuple [.Name x px, .Name y py] n pt] (.Tuple [a, b] n2 pt2) X.env = pure (some [x, y]) := by rfl) (hs : swapsWithSole [.Tuple [.Name x px, .Name y py] n pt] (.Tuple [a, b] n2 pt2) pos.line X.env = pure false := by rfl) :
    SS X cl W (.Assign [.Tuple [.Name x px, .Name y py] n pt] (.Tuple [a, b] n2 pt2) pos) (sPar j l fa) := PS.of (ps_par hc hN hi hj hij hx hy ha hw hs) fun D σ H p =>
  seqO (Rel := RL X.K) (k := fun σ xs h1 => match xs with | [x, y] => .nx ((σ.set j (some x)).set l (some y)) h1 | _ => .bad) p fun φ0 st φ H1 h1 x w l S R r P => by
    have P := P _ _ l
    split at P
    · cases r with
      | cons r1 r2 =>
        obtain ⟨w2, rfl, r3⟩ := r2.one
        exact ⟨_, _, rfl, P φ H1 _ (Lat.refl _ _) R ((S.set _ r1).set _ r3)⟩
    · exact P.elim

/-! ### o[k] = v -/
def rSt : TSet := fun o i v H Q => rSetL o i v H Q ∨ ∃ a H', o = .ref a ∧ DPut H a i v H' ∧ Q H'
theorem set_all (hu : X.A.units + 1 < cLine) : PSet X rSt := fun pins s σ H o i v ov iv u Q I ro ri rv h => by
  rcases h with h | ⟨a, H', rfl, g, q⟩
  · exact set_list pins s σ H o i v ov iv u Q I ro ri rv h
  · cases ro
    exact d_setItem hu I g ri rv fun s' I' => ⟨H', I', q⟩
theorem setD_sound {φ : List Addr} {H : Hp} {h h' : Hm} {x y z : D} {o i v : V} (R : HR X.K φ H h) (rx : Rep X.K φ H x o) (ry : Rep X.K φ H y i) (rz : Rep X.K φ H z v) (e : setD h x y z = some h') {Q : Hp → Prop} (q : ∀ H', Lat φ H φ H' → HR X.K φ H' h' → Q H') : rSt o i v H Q := by
  cases rx <;> simp only [setD] at e <;> try (cases e; done)
  rename_i n a hk
  obtain ⟨ob, h1, h2⟩ := R.at hk
  have mem : a ∈ φ := List.mem_of_getElem? hk
  cases h2 with
  | dtu hh rr => rw [h1] at e; cases e
  | dct hh rr =>
    rename_i kvs vs
    rw [h1] at e
    simp only at e
    cases ek : keyOf y with
    | none => rw [ek] at e; cases e
    | some ky =>
      rw [ek] at e
      simp only at e
      split at e
      · rename_i hl
        cases e
        obtain rfl := key_of_rep ry ek
        refine .inr ⟨a, _, rfl, .k hh (by rw [← Paired.length rr, ← line_eq]; exact hl), ?_⟩
        refine q _ (Lat.wr hh rfl mem) (R.wr hk (.dct upd_same ?_))
        exact (rr.set ky rz).mono (List.prefix_refl _) (Per.wr hh rfl)
      · cases e
  | lst hh rr =>
    rename_i xs vs
    rw [h1] at e
    simp only at e
    cases ry <;> simp only at e <;> try (cases e; done)
    rename_i j
    obtain ⟨m, e1, rfl⟩ := Option.map_eq_some_iff.mp e
    refine .inl ⟨a, vs, j, m, rfl, rfl, hh, by rw [← rr.length]; exact e1, ?_⟩
    refine q _ (Lat.wr hh rfl mem) (R.wr hk (.lst upd_same ?_))
    exact RepL.mono (List.prefix_refl _) (Per.wr hh rfl) _ _ (rr.set rz m)
theorem s_store {p' : Pos} (c0 : Cs k X) (ho : SE X cl W o f) (hi : SE X cl W i g) (he : SE X cl W e q)
    (ha : ∀ v, assign (.Subscript o i p') X.env v = (do
      let ov ← holding [v] (eval o X.env)
      let iv ← holding [v, ov] (eval i X.env)
      standAt p'
      holding [v, ov, iv] (setItem ov iv v)
      release [v, ov, iv] []) := by intro _; rfl)
    (hs : swapsWithSole [.Subscript o i p'] e pos.line X.env = pure false := by rfl) (hw : swappedStores [.Subscript o i p'] e X.env = pure none := by rfl) (h1 : (assignEach [.Subscript o i p'] X.env).map (·.2) = [assign (.Subscript o i p') X.env] := by rfl) :
    SS X cl W (.Assign [.Subscript o i p'] e pos) (sStore f g q) := PS.of (ps_asg he (pg_sub ho hi (set_all c0.hu) ha) hs hw h1) fun D σ H p =>
  seqO (Rel := RR X.K) (k := fun σ v h1 => (f σ h1).out σ fun o h2 => (g σ h2).out σ fun k h3 => match setD h3 o k v with | some h4 => .nx σ h4 | none => .bad) p fun φ0 st φ H1 h1 x w l S R r P => by
    have P := P _ _ l
    refine ⟨φ, st, h1, S, R, ?_⟩
    cases e1 : f st h1 with
    | bad => simp only [e1, Rs.out] at P; exact P
    | ex ex1 h2 => simp only [e1, Rs.out] at P; exact fun φ' H' c d l r er => P φ' H' c d σ l r (S.mono l) er
    | ok x2 h2 =>
      simp only [e1, Rs.out] at P
      intro φ2 H2 w2 l2 R2 r2
      have P := P.lat l2
      refine ⟨φ2, st, h2, S.mono l2, R2, ?_⟩
      cases e2 : g st h2 with
      | bad => simp only [e2] at P; exact P
      | ex ex1 h3 => simp only [e2] at P; exact fun φ' H' c d l r er => P φ' H' c d σ l r (S.mono (l2.trans l)) er
      | ok x3 h3 =>
        simp only [e2] at P
        intro φ3 H3 w3 l3 R3 r3
        have P := P.lat l3
        cases e3 : setD h3 x2 x3 x with
        | none => simp only [e3] at P; exact P.elim
        | some h4 =>
          simp only [e3] at P
          exact setD_sound R3 (Rep.mono l3.pre l3.per _ _ r2) r3 (Rep.mono (l2.trans l3).pre (l2.trans l3).per _ _ r) e3 fun H' l4 R4 => P φ3 H' σ l4 R4 (S.mono ((l2.trans l3).trans l4))
/-! ### o.append(e) -/
theorem s_app {p1 p2 : Pos} (ho : SE X cl W o f) (he : SE X cl W e g) (hpe : ∀ {to : TE} {t : TA}, PE X o to → PA X [e] t → PE X (.Call (.Attribute o "append" p1) [e] [] p2) (tBM X.K "list" rAppend to t))
    (hs1 : starEach [e] X.env = (false, eval e X.env) :: starEach [] X.env := by rfl) (hs : swapsWith (.Call (.Attribute o "append" p1) [e] [] p2) none pos.line X.env = pure false := by rfl) :
    SS X cl W (.Expr (.Call (.Attribute o "append" p1) [e] [] p2) pos) (sApp f g) := PS.of (ps_expr (hpe ho (pa_cons he pa_nil hs1)) hs) fun D σ H p =>
  seqO (Rel := RR X.K) (k := fun σ o h1 => if isLst h1 o = true then (g σ h1).out σ fun v h2 => match appD h2 o v with | some h3 => .nx σ h3 | none => .bad else .bad) p fun φ0 st φ H1 h1 x w l S R r P => by
    have P := P _ _ l
    split at P
    · rename_i hl
      cases r <;> simp only [isLst] at hl <;> try (cases hl; done)
      rename_i n ad hk _
      obtain ⟨ob, h3, h4⟩ := R.at hk
      refine ⟨?_, φ, st, h1, S, R, ?_⟩
      · rw [h3] at hl
        cases h4 with
        | lst hh _ => exact .inl ⟨rfl, _, .of hh⟩
        | dct hh _ => simp at hl
        | dtu hh _ => simp at hl
      · cases e2 : g st h1 with
        | bad => simp only [e2, Rs.out] at P; exact P
        | ex ex1 h3 => simp only [e2, Rs.out] at P; exact fun φ' H' c d l r er => P φ' H' c d σ l r (S.mono l) er
        | ok x3 h5 =>
          simp only [e2, Rs.out] at P
          intro φ3 H3 w3 l3 R3 r3
          have P := P.lat l3
          have hk4 := pre_get l3.pre hk
          obtain ⟨ob2, h6, h7⟩ := R3.at hk4
          simp only [appD, h6] at P
          cases h7 with
          | dct hh _ => exact P.elim
          | dtu hh _ => exact P.elim
          | lst hh rr =>
            rename_i xs vs
            simp only at P
            by_cases hz : xs.length < line
            · rw [if_pos hz] at P
              have mem : ad ∈ φ3 := List.mem_of_getElem? hk4
              refine ⟨ad, _, w3, rfl, rfl, hh, by rw [← rr.length, ← line_eq]; exact hz, ?_⟩
              refine P φ3 _ σ (Lat.wr hh rfl mem) (R3.wr hk4 (.lst upd_same ?_)) (S.mono (l3.trans (Lat.wr hh rfl mem)))
              exact RepL.mono (List.prefix_refl _) (Per.wr hh rfl) _ _ (rr.append (.cons r3 .nil))
            · rw [if_neg hz] at P
              exact P.elim
    · exact P.elim
end
end Y
end

section
set_option Elab.async false
set_option linter.all false
set_option maxRecDepth 100000
set_option maxHeartbeats 2000000
/-! YI: displays of dicts, defs, their calls, the law's end. -/
namespace Y
open PySem PySem.Spec PyProof.Rows L2

/-! ### {k: v, ..} -/
section
variable {X : Cx} {cl : Nat → Addr} {W : WX} {pos : Pos}
def RP (K : PySem.W.Frag) : RT (List D) (List (V × V)) := fun _ φ H l ps => RepL K φ H l (ps.flatMap fun p => [p.1, p.2])
instance {K : PySem.W.Frag} : Back (RP K) := ⟨fun _ _ h => h⟩
structure SP' (X : Cx) (cl : Nat → Addr) (W : WX) (pos : Pos) (ks : List (Option Expr)) (vs : List Expr) (f : Av) : Prop where
  ex : ∃ trs, PPs X pos ks vs trs ∧ ∀ σ H Q, tG X.K cl W (RP X.K) f σ H Q → tPairs trs σ H Q
theorem p_nil : SP' X cl W pos [] [] pN := ⟨[], pps_nil, fun σ H Q ⟨φ, st, h, S, R, P⟩ => P.val R .nil⟩
theorem p_cons {k v : Expr} {ks : List (Option Expr)} {vs : List Expr} {f g : Ev} {r : Av} (hk : SE X cl W k f) (hv : SE X cl W v g) (hr : SP' X cl W pos ks vs r) : SP' X cl W pos (some k :: ks) (v :: vs) (pC f g r) := by
  obtain ⟨trs, h1, h2⟩ := hr.ex
  refine ⟨_, pps_cons hk hv h1, fun σ H Q p => ?_⟩
  obtain ⟨φ, st, h0, S, R0, P⟩ := p
  refine ⟨φ, st, h0, S, R0, P.seq fun x h1 φ1 H1 v l1 r1 q1 P1 => ⟨φ1, st, h1, S.mono l1, r1, P1.seq fun y h2' φ2 H2 u l2 r2 q2 P2 => h2 _ _ _ ⟨φ2, st, h2', S.mono (l1.trans l2), r2, P2.seq fun xs h3 φ3 H3 ps l3 r3 q3 P3 => ?_⟩⟩⟩
  exact P3.val r3 (show RepL X.K φ3 H3 (x :: y :: xs) (v :: u :: ps.flatMap fun p => [p.1, p.2]) from .cons (Rep.mono (l2.trans l3).pre (l2.trans l3).per _ _ q1) (.cons (Rep.mono l3.pre l3.per _ _ q2) q3))
theorem kvs_sound {K : PySem.W.Frag} {φ : List Addr} {H : Hp} : ∀ {ps : List (V × V)} {l : List D} {kvs : List (Key × D)}, RepL K φ H l (ps.flatMap fun p => [p.1, p.2]) → kvsOf l = some kvs → ∃ kv, ps = kv.map (fun p => (kV p.1, p.2)) ∧ RepK K φ H kvs kv
  | [], l, kvs, r, e => by
    cases r
    simp [kvsOf] at e
    subst e
    exact ⟨[], rfl, .nil⟩
  | (p1, p2) :: ps, l, kvs, r, e => by
    cases r with
    | @cons x _ _ _ r1 r =>
      cases r with
      | @cons y _ ys _ r2 r =>
        simp only [kvsOf] at e
        cases e1 : keyOf x with
        | none => rw [e1] at e; cases e
        | some k =>
          cases e2 : kvsOf ys with
          | none => rw [e1, e2] at e; cases e
          | some l2 =>
            rw [e1, e2] at e
            cases e
            obtain ⟨kv, rfl, rk⟩ := kvs_sound r e2
            have ek := key_of_rep r1 e1
            dsimp only at ek
            subst ek
            exact ⟨(k, p2) :: kv, rfl, .cons ⟨rfl, r2⟩ rk⟩
theorem RepK.merge {K : PySem.W.Frag} {φ : List Addr} {H : Hp} : ∀ {more : List (Key × D)} {mv : List (Key × V)} {a : List (Key × D)} {b : List (Key × V)}, RepK K φ H more mv → RepK K φ H a b → RepK K φ H (mergeD a more) (mergeK b mv) := by
  intro more mv a b r
  induction r generalizing a b with
  | nil => intro q; exact q
  | @cons p q ps qs h t ih =>
    intro z
    show RepK K φ H (mergeD (setK a p.1 p.2) ps) (mergeK (putK b q.1 q.2) qs)
    rw [← h.1]
    exact ih (z.set p.1 h.2)
theorem s_dct {ks : List (Option Expr)} {vs : List Expr} {f : Av} (h : SP' X cl W pos ks vs f) (hall : ks.all (·.isSome) = true) (hl : ks.length = vs.length) (h0 : ks ≠ []) (h15 : ks.length ≤ 15) : SE X cl W (.Dict ks vs pos) (eDct f) := by
  obtain ⟨trs, h1, h2⟩ := h.ex
  refine PE.of (pe_disp h1 hall hl h0 h15) fun σ H Q p => ?_
  intro D hD
  obtain ⟨φ, st, h0, S, R0, P⟩ := p
  have nD : D ∉ φ := R0.notin hD
  have L0 : Lat φ H φ (upd H D (.dK [])) := Lat.new hD
  refine h2 _ _ _ ⟨φ, st, h0, S.mono L0, R0.new hD, ?_⟩
  simp only [eDct] at P
  cases e : f st h0 with
  | bad => simp only [e, Rs.bind] at P; exact P
  | ex ex1 h1 =>
    simp only [e, Rs.bind] at P
    exact fun φ' H' c d l r er => P φ' H' c d (L0.trans l) r er
  | ok l h1 =>
    simp only [e, Rs.bind] at P
    intro φ1 H1 ps l1 R1 r1
    cases ek : kvsOf l with
    | none => rw [ek] at P; exact P.elim
    | some kvs =>
      rw [ek] at P
      simp only at P
      split at P
      · rename_i hz
        obtain ⟨kv, rfl, rk⟩ := kvs_sound r1 ek
        have eD : H1 D = some (.dK []) := l1.keep D _ upd_same nD
        have nD1 : D ∉ φ1 := l1.out upd_same nD
        refine ⟨eD, kv, rfl, by rw [← Paired.length rk]; exact hz, ?_⟩
        have L : Lat φ H φ1 (upd H1 D (.dK (mergeK [] kv))) := Lat.tmp (L0.trans l1) hD eD rfl
        have rk2 : RepK X.K φ1 (upd H1 D (.dK (mergeK [] kv))) (mergeD [] kvs) (mergeK [] kv) := (RepK.merge rk .nil).mono (List.prefix_refl _) (Per.wr eD rfl)
        refine P (φ1 ++ [D]) _ _ ⟨L.pre.trans (List.prefix_append _ _), L.per, L.keep, fun b m => ?_⟩ ((R1.out nD1 eD rfl).add nD1 (.dct upd_same (rk2.mono (List.prefix_append _ _) (Per.refl _)))) (.loc ?_)
        · rcases List.mem_append.mp m with m | m
          · exact L.fresh b m
          · simp at m
            subst m
            exact .inr hD
        · rw [List.getElem?_append_right (by rw [R1.len]; exact Nat.le_refl _)]
          simp [R1.len]
      · exact P.elim
end

/-! ### a def -/
structure FnG (P : Program) (w : World) (K : PySem.W.Frag) (mg : Str → Option Value) (base : Heap) (k : Nat) (f : Addr) (fd : FuncData) (ps : List Str) (sp : Sp) : Prop where
  len : ∀ vs H Q E, sp vs H Q E → vs.length = ps.length
  run : ∀ (A : Around) (outer : List Env) (s : Shared) (H : Hp) (args : Args) (us : List Value) (vs : List V) (Q : VK) (E : XK), Room k A → A.guards = some [] → Env0 P w K mg base A outer s H → BindsTo s fd args (ps.zip us) → Vals vs us → sp vs H Q E →
    codeAny (model P w) A (.call (.ref f) args) (CR (L2.CX P w) outer P w H s Q E) s
theorem FnG.mono {P : Program} {w : World} {K : PySem.W.Frag} {mg : Str → Option Value} {base : Heap} {j k : Nat} {f : Addr} {fd : FuncData} {ps : List Str} {sp : Sp} (F : FnG P w K mg base j f fd ps sp) (h : j ≤ k) : FnG P w K mg base k f fd ps sp :=
  ⟨F.len, fun A outer s H args us vs Q E hr => F.run A outer s H args us vs Q E (hr.mono h)⟩
/-- «does what d does» -/
def spP (K : PySem.W.Frag) (cl : Nat → Addr) (n : Nat) (d : Fn) : Sp := fun vs H Q E => ∃ φ ds h, ds.length = n ∧ RepL K φ H ds vs ∧ HR K φ H h ∧ Post K cl φ H (RR K) (d ds h) Q E
def spL (K : PySem.W.Frag) (cl : Nat → Addr) (n : Nat) (d : FnL) : Sp := fun vs H Q E => ∃ φ ds h, ds.length = n ∧ RepL K φ H ds vs ∧ HR K φ H h ∧ Post K cl φ H (Fresh K) (d ds h) Q E
/-- the context of a def's body -/
abbrev cxY (P : Program) (w : World) (K : PySem.W.Frag) (mg : Str → Option Value) (base : Heap) (N : List Str) (qual : Str) (scope : Scope) (f : Addr) (cd : Value) (A : Around) (outer : List Env) (s : Shared) (H : Hp) (E : XK) : Cx :=
  cxOf (L2.CX P w) P w K mg base N qual scope f cd A outer s H E
section
variable {P : Program} {w : World} {K : PySem.W.Frag} {mg : Str → Option Value} {base : Heap}
theorem binds_all {scope : Scope} {ps : List Str} {us : List Value} (h : ∀ x ∈ ps, scope.names.lookup x = some .local ∨ scope.names.lookup x = some .cell) : ((ps.zip us).all fun y => scope.names.lookup y.1 == some .local || scope.names.lookup y.1 == some .cell) = true := by
  rw [List.all_eq_true]
  rintro ⟨n, v⟩ hy
  rcases h n (List.of_mem_zip hy).1 with e | e <;> simp [e]
theorem gn_of {x qual : Str} {st : Stmt} {f : Addr} {fd : FuncData} {N ps : List Str} {k : Nat} {sp : Sp} (F : Fun K x qual st f fd) (S : FnScope N ps (defScope st)) (len : ∀ vs H Q E, sp vs H Q E → vs.length = ps.length)
    (hb : ∀ (cdv : Value) (A : Around) (outer : List Env) (s : Shared) (H : Hp) (vs : List V) (Q : VK) (E : XK), Cs k (cxY P w K mg base N qual (defScope st) f cdv A outer s H E) → sp vs H Q E →
      ∃ t, PSs (cxY P w K mg base N qual (defScope st) f cdv A outer s H E) (defBody st) t ∧ t { nx := fun _ H' => Q .non H', rt := Q } (start N vs) H) : FnG P w K mg base (k + 1) f fd ps sp := by
  obtain ⟨oc, od, kV, doc, pm, an, cdv, ct, osl, rfl, lk, hcd⟩ := F.ex
  refine ⟨len, fun A outer s H args us vs Q E hr hg e0 hbd r hsp => ?_⟩
  have KX : K.In s.heap := e0.mod.kin.keeps fun b o e => (e0.bs b o e).1
  have lim : s.heap.NoLimit := e0.mod.nolimit.keeps fun b o e => (e0.bs b o e).1
  refine Att.call_fn KX lim lk hcd hr.depth hbd (binds_all S.par) (fun s₁ IC => ?_) S.co S.gen S.kind
  obtain ⟨t, ht, hq⟩ := hb cdv A outer s H vs Q E ⟨hr.deeper _, hg, rfl, S.nd⟩ hsp
  have I := inv_start (CX := L2.CX P w) (E := E) (cd := cdv) (f := f) (qual := qual) S hr.hd e0 (len _ _ _ _ hsp) r IC
  refine wpAny_mono (ht.run [] s₁ (start N vs) H _ I hq) (fun fl s' hs => ?_) fun e s' hs => hs
  have fin : ∀ {σ' : L2.St} {H' : Hp} {v : V} {u : Value}, L2.Inv (cxY P w K mg base N qual (defScope st) f cdv A outer s H E) [] σ' H' s' → RelV v u → Q v H' → CE outer P w H s Q u s' := fun J rv q => ⟨_, _, J.os, J.bare, J.base, J.hok, rv, q⟩
  cases fl with
  | ret u =>
    obtain ⟨v, σ', H', J, rv, q⟩ := hs
    exact fin J rv q
  | next =>
    obtain ⟨σ', H', J, q⟩ := hs
    exact fin (v := V.non) (u := Value.none) J rfl q
  | brk => obtain ⟨_, _, _, q⟩ := hs; exact q.elim
  | cont => obtain ⟨_, _, _, q⟩ := hs; exact q.elim
end

/-! ### what a def made for itself is forgotten -/
section
variable {K : PySem.W.Frag} {φ : List Addr} {H : Hp}
mutual
theorem Rep.low : ∀ (d : D) (v : V), Rep K φ H d v → D.low φ.length d = true
  | .non, _, _ => rfl
  | .bl _, _, _ => rfl
  | .int _, _, _ => rfl
  | .str _, _, _ => rfl
  | .tup ds, _, h => by cases h with | tup h r => simpa [D.low] using RepL.low ds _ r
  | .fl ds, _, h => by cases h with | fl h r => simpa [D.low] using RepL.low ds _ r
  | .sq ds, _, h => by cases h with | sq h r => simpa [D.low] using RepL.low ds _ r
  | .loc k, _, h => by cases h with | loc h => simpa [D.low] using (List.getElem?_eq_some_iff.mp h).1
  | .obj c ns ds, _, h => by cases h with | obj hc h e1 e2 r => simpa [D.low] using RepL.low ds _ r | exo hc he h hψ hd e1 e2 r => simpa [D.low] using RepL.low ds _ r
theorem RepL.low : ∀ (d : List D) (v : List V), RepL K φ H d v → D.lowL φ.length d = true
  | [], _, _ => rfl
  | d :: ds, _, h => by cases h with | cons h r => simp [D.lowL, Rep.low d _ h, RepL.low ds _ r]
end
theorem repK_low {κ : Type} {xs : List (κ × D)} {ys : List (κ × V)} (r : RepK K φ H xs ys) : D.lowL φ.length (xs.map (·.2)) = true := by
  induction r with
  | nil => rfl
  | cons h _ ih => simp [D.lowL, Rep.low _ _ h.2, ih]
theorem ObR.low {a : Addr} {o : Ob} (x : ObR K φ H a o) : Ob.low φ.length o = true := by
  cases x with
  | lst h r => exact RepL.low _ _ r
  | dct h r => exact repK_low r
  | dtu h r => exact repK_low r
theorem zip_at {α β : Type} : ∀ {l : List α} {m : List β} {i : Nat} {a : α} {b : β}, l[i]? = some a → m[i]? = some b → (a, b) ∈ l.zip m
  | _ :: _, _ :: _, 0, _, _, h, q => by
    simp at h q
    subst h; subst q
    simp
  | _ :: _, _ :: _, i + 1, _, _, h, q => by
    simp at h q
    exact List.mem_cons_of_mem _ (zip_at h q)
  | [], _, _, _, _, h, _ => by simp at h
  | _ :: _, [], _, _, _, _, q => by simp at q
theorem HR.shut {φ' : List Addr} {H' : Hp} {h0 h' : Hm} (R : HR K φ H h0) (l : Lat φ H φ' H') (R' : HR K φ' H' h') (hs : sealed h0.length h0 h' = true) (hl : h0.length ≤ h'.length) : Lat φ H φ H' ∧ HR K φ H' (h'.take h0.length) := by
  have ep : φ'.take h0.length = φ := by
    obtain ⟨t, e⟩ := l.pre
    rw [← e, ← R.len, List.take_left]
  refine ⟨⟨List.prefix_refl _, l.per, l.keep, fun _ m => .inl m⟩, by rw [List.length_take, Nat.min_eq_left hl, R.len], R.nd, fun k a o e1 e2 => ?_⟩
  have lt : k < h0.length := by rw [← R.len]; exact (List.getElem?_eq_some_iff.mp e1).1
  have e2' : h'[k]? = some o := by rw [List.getElem?_take_of_lt lt] at e2; exact e2
  have x := R'.ob k a o (pre_get l.pre e1) e2'
  have low : Ob.low h0.length o = true := by
    have z := List.all_eq_true.mp hs (o, h0[k]) (zip_at e2 (List.getElem?_eq_getElem lt))
    simp only [Bool.or_eq_true, decide_eq_true_eq] at z
    rcases z with z | z
    · have y := (R.ob k a _ e1 (List.getElem?_eq_getElem lt)).low
      rw [R.len] at y
      rw [z]
      exact y
    · exact z
  rw [← ep]
  exact x.cut low
theorem fin_sound {cl : Nat → Addr} {h0 h' : Hm} {d : D} {Q : VK} {We : WE'} (R : HR K φ H h0) (p : Post K cl φ H (RR K) (finP h0 d h') Q We) : ∀ φ' H' v, Lat φ H φ' H' → HR K φ' H' h' → Rep K φ' H' d v → Q v H' := by
  intro φ' H' v l R' r
  unfold finP at p
  split at p
  · exact p φ' H' v l R' r
  · split at p
    · rename_i hc
      simp only [Bool.and_eq_true, decide_eq_true_eq] at hc
      obtain ⟨l2, R2⟩ := R.shut l R' hc.1.2 hc.2
      have ep : φ'.take h0.length = φ := by
        obtain ⟨t, e⟩ := l.pre
        rw [← e, ← R.len, List.take_left]
      refine p φ H' v l2 R2 ?_
      have z := Rep.cut h0.length d v hc.1.1 r
      rw [ep] at z
      exact z
    · exact p.elim
theorem startD_at {n : Nat} {ds : List D} {i : Nat} {d : D} (h : (startD n ds)[i]? = some (some d)) : ds[i]? = some d := by
  unfold startD at h
  by_cases hi : i < ds.length
  · rw [List.getElem?_append_left (by simpa using hi), List.getElem?_map] at h
    cases e : ds[i]? with
    | none => rw [e] at h; cases h
    | some a => rw [e] at h; cases h; rfl
  · rw [List.getElem?_append_right (by simpa using hi), List.getElem?_replicate] at h
    split at h <;> cases h
theorem SR.start {N : List Str} {ds : List D} {vs : List V} (r : RepL K φ H ds vs) : SR K φ H (startD N.length ds) (start N vs) := by
  refine ⟨by simp [startD, L2.start, r.length], fun i d e => ?_⟩
  obtain ⟨v, h1, h2⟩ := r.get (startD_at e)
  refine ⟨v, ?_, h2⟩
  unfold L2.start
  rw [List.getElem?_append_left (by simpa using (List.getElem?_eq_some_iff.mp h1).1), List.getElem?_map, h1]
  rfl
end
section
variable {P : Program} {w : World} {K : PySem.W.Frag} {mg : Str → Option Value} {base : Heap} {cl : Nat → Addr}
/-- the wish of a def's body -/
abbrev wOf (E : XK) : WX := fun c d _ H => E c d H
/-- THE RULE: a def whose body is b's -/
theorem fn_P {x qual : Str} {st : Stmt} {f : Addr} {fd : FuncData} {N ps : List Str} {k : Nat} {b : Sv} (F : Fun K x qual st f fd) (S : FnScope N ps (defScope st))
    (hb : ∀ X : Cx, X.prog = P → X.w = w → X.K = K → X.mg = mg → X.base = base → X.N = N → X.env.scope = defScope st → X.stack = X.env :: X.outer → X.env.frame = some X.env.locals → X.fn = (fun _ => true) → ∀ E : XK, Cs k X → Takes X (wOf E) → PassesOwn (model X.prog X.w) X.A X.env X.xe → SSs X cl (wOf E) (defBody st) b) :
    FnG P w K mg base (k + 1) f fd ps (spP K cl ps.length (fnP N.length b)) := by
  refine gn_of F S (fun vs H Q E ⟨φ, ds, h, e, r, _⟩ => by rw [← r.length, e]) fun cdv A outer s H vs Q E c ⟨φ, ds, h, el, r, R, p⟩ => ?_
  refine ⟨_, hb _ rfl rfl rfl rfl rfl rfl rfl rfl rfl rfl E c (takes_of rfl rfl rfl rfl) (passes_of rfl), φ, startD N.length ds, h, SR.start r, R, ?_⟩
  simp only [fnP] at p
  cases e : b (startD N.length ds) h with
  | rt d h' => simp only [e] at p; exact fin_sound R p
  | nx σ h' => simp only [e] at p; exact fun φ' H' τ l r s => fin_sound R p φ' H' _ l r .non
  | ex e1 σ h' => simp only [e] at p; exact fun φ' H' c d τ l r s er => p φ' H' c d l r er
  | bk _ _ => simp only [e] at p; exact p.elim
  | ct _ _ => simp only [e] at p; exact p.elim
  | rl _ _ => simp only [e] at p; exact p.elim
  | bad => simp only [e] at p; exact p.elim
theorem fn_K {x qual : Str} {st : Stmt} {f : Addr} {fd : FuncData} {N ps : List Str} {k : Nat} {b : Sv} (F : Fun K x qual st f fd) (S : FnScope N ps (defScope st))
    (hb : ∀ X : Cx, X.prog = P → X.w = w → X.K = K → X.mg = mg → X.base = base → X.N = N → X.env.scope = defScope st → X.stack = X.env :: X.outer → X.env.frame = some X.env.locals → X.fn = (fun _ => true) → ∀ E : XK, Cs k X → Takes X (wOf E) → PassesOwn (model X.prog X.w) X.A X.env X.xe → SSs X cl (wOf E) (defBody st) b) :
    FnG P w K mg base (k + 1) f fd ps (spP K cl ps.length (fnK N.length b)) := by
  refine gn_of F S (fun vs H Q E ⟨φ, ds, h, e, r, _⟩ => by rw [← r.length, e]) fun cdv A outer s H vs Q E c ⟨φ, ds, h, el, r, R, p⟩ => ?_
  refine ⟨_, hb _ rfl rfl rfl rfl rfl rfl rfl rfl rfl rfl E c (takes_of rfl rfl rfl rfl) (passes_of rfl), φ, startD N.length ds, h, SR.start r, R, ?_⟩
  simp only [fnK] at p
  cases e : b (startD N.length ds) h with
  | rt d h' => simp only [e] at p; exact p
  | nx σ h' => simp only [e] at p; exact fun φ' H' τ l r s => p φ' H' _ l r .non
  | ex e1 σ h' => simp only [e] at p; exact fun φ' H' c d τ l r s er => p φ' H' c d l r er
  | bk _ _ => simp only [e] at p; exact p.elim
  | ct _ _ => simp only [e] at p; exact p.elim
  | rl _ _ => simp only [e] at p; exact p.elim
  | bad => simp only [e] at p; exact p.elim
theorem fn_L {x qual : Str} {st : Stmt} {f : Addr} {fd : FuncData} {N ps : List Str} {k : Nat} {b : Sv} (F : Fun K x qual st f fd) (S : FnScope N ps (defScope st))
    (hb : ∀ X : Cx, X.prog = P → X.w = w → X.K = K → X.mg = mg → X.base = base → X.N = N → X.env.scope = defScope st → X.stack = X.env :: X.outer → X.env.frame = some X.env.locals → X.fn = (fun _ => true) → ∀ E : XK, Cs k X → Takes X (wOf E) → PassesOwn (model X.prog X.w) X.A X.env X.xe → SSs X cl (wOf E) (defBody st) b) :
    FnG P w K mg base (k + 1) f fd ps (spL K cl ps.length (fnL N.length b)) := by
  refine gn_of F S (fun vs H Q E ⟨φ, ds, h, e, r, _⟩ => by rw [← r.length, e]) fun cdv A outer s H vs Q E c ⟨φ, ds, h, el, r, R, p⟩ => ?_
  refine ⟨_, hb _ rfl rfl rfl rfl rfl rfl rfl rfl rfl rfl E c (takes_of rfl rfl rfl rfl) (passes_of rfl), φ, startD N.length ds, h, SR.start r, R, ?_⟩
  have ept : ∀ {φ'}, φ <+: φ' → φ'.take h.length = φ := fun ⟨t, e⟩ => by rw [← e, ← R.len, List.take_left]
  simp only [fnL] at p
  cases e : b (startD N.length ds) h with
  | rl d h' =>
    simp only [e, finL] at p
    intro φ' H' v l R' q
    split at p
    · exact p φ' H' v l R' q
    · split at p
      · rename_i hc
        simp only [Bool.and_eq_true, decide_eq_true_eq] at hc
        obtain ⟨l2, R2⟩ := R.shut l R' hc.1.2 hc.2
        obtain ⟨a, us, rfl, n0, nn, ea, rr⟩ := q
        refine p φ H' _ l2 R2 ⟨a, us, rfl, n0, pre_notin l.pre nn, ea, ?_⟩
        have z := RepL.cut h.length d us hc.1.1 rr
        rw [ept l.pre] at z
        exact z
      · exact p.elim
  | rt d h' =>
    simp only [e] at p
    intro φ' H' v l R' q
    cases q with
    | @loc kk a hk =>
      simp only [finL] at p
      obtain ⟨ob, h1, h2⟩ := R'.at hk
      cases h2 with
      | dct _ _ => rw [h1] at p; exact p.elim
      | dtu _ _ => rw [h1] at p; exact p.elim
      | lst hh rr =>
        rw [h1] at p
        simp only at p
        split at p
        · rename_i hc
          simp only [Bool.and_eq_true, decide_eq_true_eq] at hc
          have hl : h.length ≤ h'.length := by
            have := (List.getElem?_eq_some_iff.mp h1).1
            omega
          obtain ⟨l2, R2⟩ := R.shut l R' hc.1.2 hl
          have na : a ∉ φ := fun m => by
            obtain ⟨j, ej⟩ := List.getElem?_of_mem m
            have ej' := pre_get l.pre ej
            obtain ⟨x1, y1⟩ := List.getElem?_eq_some_iff.mp ej'
            obtain ⟨x2, y2⟩ := List.getElem?_eq_some_iff.mp hk
            have : j = kk := (List.getElem_inj R'.nd).mp (y1.trans y2.symm)
            have lt : j < φ.length := (List.getElem?_eq_some_iff.mp ej).1
            rw [R.len] at lt
            omega
          have n0 : H a = none := (l.fresh a (List.mem_of_getElem? hk)).resolve_left na
          refine p φ H' _ l2 R2 ⟨a, _, rfl, n0, na, hh, ?_⟩
          have z := RepL.cut h.length _ _ hc.1.1 rr
          rw [ept l.pre] at z
          exact z
        · exact p.elim
    | _ => exact p.elim
  | nx σ h' => simp only [e, finL] at p; exact p.elim
  | ex e1 σ h' => simp only [e, finL] at p; exact fun φ' H' c d τ l r s er => p φ' H' c d l r er
  | bk _ _ => simp only [e, finL] at p; exact p.elim
  | ct _ _ => simp only [e, finL] at p; exact p.elim
  | bad => simp only [e, finL] at p; exact p.elim
end

/-! ### calls -/
section
variable {X : Cx} {cl : Nat → Addr} {W : WX} {e : Expr} {es : List Expr} {fa : Av} {pos p : Pos} {k j n : Nat} {x : Str} {f : Addr} {fd : FuncData} {ps : List Str} {d : Fn} {dl : FnL}
theorem run_g {sp : Sp} {pins : List (Addr × Obj)} {σ : L2.St} {H : Hp} {s : Shared} {Q : VK} {us : List Value} {vs : List V} (F : FnG X.prog X.w X.K X.mg X.base k f fd ps sp) (c : Cs k X) (tk : Takes X W) (hb : Binds X.K fd ps []) (I : L2.Inv X pins σ H s) (r : Vals vs us)
    (h : sp vs H Q fun c d H' => W c d σ H') : wpAny (model X.prog X.w) X.A (call (.ref f) us) (EP X pins σ Q) X.xe s := by
  have hl : us.length = ps.length := by rw [← r.length]; exact F.len _ _ _ _ h
  have b := hb s us I.kIn (by rw [List.append_nil]; exact hl)
  rw [List.append_nil] at b
  refine wpAny_call (codeAny_mono (F.run X.A X.stack s H ⟨us, []⟩ us vs Q _ c.room c.gd I.env0 b r h) fun q s' hq => ?_)
  cases q with
  | error e => exact passAt tk σ pins H s e s' I hq
  | ok fl =>
    cases fl with
    | ret u => exact I.after hq
    | next => exact hq.elim
    | brk => exact hq.elim
    | cont => exact hq.elim
theorem go_call {sp : Sp} {t : TA} (F : FnG X.prog X.w X.K X.mg X.base k f fd ps sp) (c : Cs k X) (tk : Takes X W) (hg : Gl X x) (hm : X.mg x = some (.ref f)) (hk : PySem.W.keepIn X.K (.ref f) = true) (hb : Binds X.K fd ps []) (ha : PA X (e :: es) t) (hdb : (x == ("__debug__" : Str)) = false := by decide)
    (he : starEach (e :: es) X.env = (false, eval e X.env) :: starEach es X.env := by rfl) (hpl : (backTo pos (starEach es X.env)).any (·.1) = false := by rfl) : PE X (.Call (.Name x p) (e :: es) [] pos) (fun σ H Q => t σ H fun vs H1 => sp vs H1 Q fun c d H' => W c d σ H') := by
  refine ⟨fun pins s σ H Q I h => ?_⟩
  refine wpAny_Call_Name_kw (ld_glob I hg hm ?_ hdb)
  exact PySem.W.callWith_K (h₀ := X.base) I.ok.mod.kin hk (thn (ha.run pos pins s σ H _ I h) fun us s1 ⟨vs, H1, I1, r, q⟩ => ⟨I1.kIn, run_g F c tk hb I1 r q⟩) he hpl
theorem go_call0 {sp : Sp} (F : FnG X.prog X.w X.K X.mg X.base k f fd ps sp) (c : Cs k X) (tk : Takes X W) (hg : Gl X x) (hm : X.mg x = some (.ref f)) (hk : PySem.W.keepIn X.K (.ref f) = true) (hb : Binds X.K fd ps []) (hdb : (x == ("__debug__" : Str)) = false := by decide) :
    PE X (.Call (.Name x p) [] [] pos) (fun σ H Q => sp [] H Q fun c d H' => W c d σ H') := by
  refine ⟨fun pins s σ H Q I h => ?_⟩
  refine wpAny_Call_Name_kw (ld_glob I hg hm ?_ hdb)
  exact PySem.W.callWith_K0 I.kIn hk (run_g (us := []) F c tk hb I .nil h)
theorem s_call (F : FnG X.prog X.w X.K X.mg X.base k f fd ps (spP X.K cl n d)) (c : Cs k X) (tk : Takes X W) (hg : Gl X x) (hm : X.mg x = some (.ref f)) (hk : PySem.W.keepIn X.K (.ref f) = true) (hb : Binds X.K fd ps []) (hn : (e :: es).length = n) (hal : ∀ σ h xs h', fa σ h = .ok xs h' → xs.length = (e :: es).length) (ha : SA X cl W (e :: es) fa) (hdb : (x == ("__debug__" : Str)) = false := by decide)
    (he : starEach (e :: es) X.env = (false, eval e X.env) :: starEach es X.env := by rfl) (hpl : (backTo pos (starEach es X.env)).any (·.1) = false := by rfl) : SE X cl W (.Call (.Name x p) (e :: es) [] pos) (eCall d fa) := PE.of (go_call F c tk hg hm hk hb ha hdb he hpl) fun σ H Q p => by
  obtain ⟨φ, st, h0, S, R0, P⟩ := p
  refine ⟨φ, st, h0, S, R0, ?_⟩
  simp only [eCall] at P
  cases e1 : fa st h0 with
  | bad => simp only [e1, Rs.bind] at P; exact P
  | ex ex1 h1 => simp only [e1, Rs.bind] at P; exact P
  | ok xs h1 =>
    simp only [e1, Rs.bind] at P
    exact fun φ1 H1 vs l1 r1 q1 => ⟨φ1, xs, h1, by rw [hal st h0 xs h1 e1, hn], q1, r1, P.lat l1⟩
theorem l_call (F : FnG X.prog X.w X.K X.mg X.base k f fd ps (spL X.K cl n dl)) (c : Cs k X) (tk : Takes X W) (hg : Gl X x) (hm : X.mg x = some (.ref f)) (hk : PySem.W.keepIn X.K (.ref f) = true) (hb : Binds X.K fd ps []) (hn : (e :: es).length = n) (hal : ∀ σ h xs h', fa σ h = .ok xs h' → xs.length = (e :: es).length) (ha : SA X cl W (e :: es) fa) (hdb : (x == ("__debug__" : Str)) = false := by decide)
    (he : starEach (e :: es) X.env = (false, eval e X.env) :: starEach es X.env := by rfl) (hpl : (backTo pos (starEach es X.env)).any (·.1) = false := by rfl) : SL X cl W (.Call (.Name x p) (e :: es) [] pos) (lCall dl fa) := PE.of (go_call F c tk hg hm hk hb ha hdb he hpl) fun σ H Q p => by
  obtain ⟨φ, st, h0, S, R0, P⟩ := p
  refine ⟨φ, st, h0, S, R0, ?_⟩
  simp only [lCall] at P
  cases e1 : fa st h0 with
  | bad => simp only [e1, Rs.bind] at P; exact P
  | ex ex1 h1 => simp only [e1, Rs.bind] at P; exact P
  | ok xs h1 =>
    simp only [e1, Rs.bind] at P
    exact fun φ1 H1 vs l1 r1 q1 => ⟨φ1, xs, h1, by rw [hal st h0 xs h1 e1, hn], q1, r1, P.lat l1⟩
theorem s_call0 (F : FnG X.prog X.w X.K X.mg X.base k f fd ps (spP X.K cl 0 d)) (c : Cs k X) (tk : Takes X W) (hg : Gl X x) (hm : X.mg x = some (.ref f)) (hk : PySem.W.keepIn X.K (.ref f) = true) (hb : Binds X.K fd ps []) (hdb : (x == ("__debug__" : Str)) = false := by decide) : SE X cl W (.Call (.Name x p) [] [] pos) (eCall d aN) :=
  PE.of (go_call0 F c tk hg hm hk hb hdb) fun σ H Q ⟨φ, st, h0, S, R0, P⟩ => ⟨φ, [], h0, rfl, .nil, R0, P⟩
theorem l_call0 (F : FnG X.prog X.w X.K X.mg X.base k f fd ps (spL X.K cl 0 dl)) (c : Cs k X) (tk : Takes X W) (hg : Gl X x) (hm : X.mg x = some (.ref f)) (hk : PySem.W.keepIn X.K (.ref f) = true) (hb : Binds X.K fd ps []) (hdb : (x == ("__debug__" : Str)) = false := by decide) : SL X cl W (.Call (.Name x p) [] [] pos) (lCall dl aN) :=
  PE.of (go_call0 F c tk hg hm hk hb hdb) fun σ H Q ⟨φ, st, h0, S, R0, P⟩ => ⟨φ, [], h0, rfl, .nil, R0, P⟩
theorem al_nil : ∀ (σ : Sl) (h : Hm) (xs : List D) (h' : Hm), aN σ h = .ok xs h' → xs.length = 0 := fun σ h xs h' e => by simp [aN] at e; simp [← e.1]
theorem al_cons {m : Nat} {f : Ev} {g : Av} (q : ∀ (σ : Sl) (h : Hm) (xs : List D) (h' : Hm), g σ h = .ok xs h' → xs.length = m) : ∀ (σ : Sl) (h : Hm) (xs : List D) (h' : Hm), aC f g σ h = .ok xs h' → xs.length = m + 1 := fun σ h xs h' e => by
  simp only [aC] at e
  cases e1 : f σ h with
  | bad => simp [e1, Rs.bind] at e
  | ex _ _ => simp [e1, Rs.bind] at e
  | ok x h1 =>
    cases e2 : g σ h1 with
    | bad => simp [e1, e2, Rs.bind] at e
    | ex _ _ => simp [e1, e2, Rs.bind] at e
    | ok ys h2 =>
      simp [e1, e2, Rs.bind] at e
      rw [← e.1]
      simp [q _ _ _ _ e2]
end
end Y
end

section
set_option Elab.async false
set_option linter.all false
set_option maxRecDepth 100000
set_option maxHeartbeats 2000000
/-! YJ: repr, min, max, isqrt, gcd, t[::-1]. -/
namespace Y
open PySem PySem.Spec PyProof.Rows L2

mutual
def wid : PyData → Nat
  | .none => 4
  | .bool _ => 5
  | .int i => if i.natAbs < 10 ^ 60 then 61 else 1000000000
  | .str x => (reprText x).length
  | .list xs => widL xs + 3
  | .tuple xs => widL xs + 3
  | .dict _ => 1000000000
def widL : List PyData → Nat
  | [] => 0
  | x :: xs => wid x + 2 + widL xs
end
theorem tupleText_le (ts : List Str) : (tupleText ts).length ≤ piled ts + 3 := by
  unfold tupleText
  rw [strLen_append, strLen_append]
  have e1 : ((("(" : String) : Str)).length = 1 := rfl
  have e3 : (((if ts.length == 1 then ",)" else ")" : String) : Str)).length ≤ 2 := by split <;> decide
  rw [e1]
  by_cases h : ts = []
  · subst h
    have : (Str.join ", " []).length = 0 := rfl
    omega
  · have := join_length_add ts h
    omega
theorem textFrom_le : ∀ (ts : List Str) (k : Nat) (acc : Str), (textFrom k acc ts).length ≤ acc.length + piled ts
  | [], k, acc => by show acc.length ≤ _; omega
  | t :: r, k, acc => by
    have h := textFrom_le r (k + 1) (acc ++ (if k > 0 then ", " else "" : String) ++ t)
    have e : (acc ++ (if k > 0 then ", " else "" : String) ++ t).length ≤ acc.length + 2 + t.length := by
      rw [strLen_append, strLen_append]
      have : (((if k > 0 then ", " else "" : String) : Str)).length ≤ 2 := by split <;> decide
      omega
    rw [piled_cons]
    show (textFrom (k + 1) _ r).length ≤ _
    omega
theorem listText_le (ts : List Str) : (listText ts).length ≤ piled ts + 3 := by
  have h := textFrom_le ts 0 "["
  show (textFrom 0 "[" ts ++ "]").length ≤ _
  rw [strLen_append]
  have e1 : ((("[" : String) : Str)).length = 1 := rfl
  have e2 : ((("]" : String) : Str)).length = 1 := rfl
  omega
theorem lt60 {i : Int} (h : i.natAbs < 10 ^ 60) : i.natAbs.log2 < 1920 := by
  by_cases e : i.natAbs = 0
  · rw [e]; decide
  · have h2 : (10 ^ 60 : Nat) < 2 ^ 1920 := by decide +kernel
    exact (Nat.log2_lt e).mpr (Nat.lt_trans h h2)
mutual
theorem wid_ok : ∀ p : PyData, wid p ≤ line → p.shown.length ≤ wid p ∧ p.showable = true
  | .none, _ => ⟨by decide, by simp [PyData.showable]⟩
  | .bool b, _ => ⟨by cases b <;> decide, by simp [PyData.showable]⟩
  | .int i, h => by
    by_cases hi : i.natAbs < 10 ^ 60
    · rw [wid, if_pos hi] at *
      refine ⟨?_, by simpa [PyData.showable] using lt60 hi⟩
      have h1 := int_text_length_le10 (k := 60) (by decide) hi
      show (Str.ofString (toString i)).length ≤ 61
      rw [PySem.ofString_length]
      exact h1
    · rw [wid, if_neg hi] at h
      exact absurd h (by decide)
  | .str x, h => ⟨by simp only [PyData.shown, wid]; exact Nat.le_refl _, by simp [PyData.showable]⟩
  | .list xs, h => by
    have g := widL_ok xs (by simp only [wid] at h; omega)
    refine ⟨?_, by simpa [PyData.showable] using g.2⟩
    have := listText_le (PyData.shownAll xs)
    simp only [PyData.shown, wid]
    have := g.1
    omega
  | .tuple xs, h => by
    have g := widL_ok xs (by simp only [wid] at h; omega)
    refine ⟨?_, by simpa [PyData.showable] using g.2⟩
    have := tupleText_le (PyData.shownAll xs)
    simp only [PyData.shown, wid]
    have := g.1
    omega
  | .dict _, h => absurd h (by simp only [wid]; decide)
theorem widL_ok : ∀ ps : List PyData, widL ps ≤ line → piled (PyData.shownAll ps) ≤ widL ps ∧ PyData.showableAll ps = true
  | [], _ => ⟨Nat.le_refl _, by simp [PyData.showableAll]⟩
  | p :: ps, h => by
    simp only [widL] at h
    have g1 := wid_ok p (by omega)
    have g2 := widL_ok ps (by omega)
    refine ⟨?_, by simp [PyData.showableAll, g1.2, g2.2]⟩
    simp only [PyData.shownAll, widL, piled_cons]
    have := g1.1
    have := g2.1
    omega
end
/-- repr(x) -/
def bRepr (h : Hm) : List D → Option D
  | [d] => match py h d with
    | some p => if SeqAt.shaped p && decide (wid p ≤ line) then some (.str p.shown) else none
    | none => none
  | _ => none
def minI (ns : List Int) : Option Int := match ns with
  | [] => none
  | n :: r => some (r.foldl min n)
def maxI (ns : List Int) : Option Int := match ns with
  | [] => none
  | n :: r => some (r.foldl max n)
def bMin (h : Hm) : List D → Option D
  | [.tup xs] => ((intsOf xs).bind minI).map .int
  | [d] => ((lstOf h d).bind fun xs => (intsOf xs).bind minI).map .int
  | _ => none
def bMax (h : Hm) : List D → Option D
  | [.tup xs] => ((intsOf xs).bind maxI).map .int
  | [d] => ((lstOf h d).bind fun xs => (intsOf xs).bind maxI).map .int
  | _ => none
def bSqrt (_ : Hm) : List D → Option D
  | [.int a] => if 0 ≤ a ∧ a < big then some (.int (Float64.isqrt a.toNat : Nat)) else none
  | _ => none
def bGcd (_ : Hm) : List D → Option D
  | [.int a, .int b] => some (.int (Nat.gcd a.natAbs b.natAbs : Nat))
  | _ => none
def uRev (_ : Hm) : D → Option D
  | .tup xs => some (.tup xs.reverse)
  | _ => none
def lRev (f : Ev) : Lv := fun σ h => (f σ h).bind fun x h1 => ofO ((lstOf h1 x).map List.reverse) h1

section
variable {X : Cx} {cl : Nat → Addr} {W : WX} {e a b c : Expr} {es : List Expr} {f g q : Ev} {fa : Av} {t t' : Tv} {pos : Pos} {k : Nat}
theorem c_reprW (hu0 : X.A.units + 200 < cLine) (gd0 : X.A.guards = some []) : CaY X (.builtin "repr") bRepr := caY fun Q φ H h xs vs z R r e q => by
  rcases xs with _ | ⟨d, _ | _⟩ <;> simp only [bRepr] at e <;> try (cases e; done)
  obtain ⟨v, rfl, rd⟩ := r.one
  cases e1 : py h d with
  | none => rw [e1] at e; cases e
  | some p =>
    rw [e1] at e
    dsimp only at e
    split at e
    · rename_i hw
      cases e
      simp only [Bool.and_eq_true, decide_eq_true_eq] at hw
      have hw1 := wid_ok p hw.2
      have dp := Rep.dp d v p e1 rd
      have q' : Q (.str p.shown) H := q φ H _ (Lat.refl _ _) R (.str _)
      refine ⟨fun us H' Q' => us = [v] ∧ H' = H ∧ Q' (.str p.shown) H, ?_, rfl, rfl, q'⟩
      intro pins s σ H1 xs us Q1 I r1 hh
      obtain ⟨rfl, rfl, qq⟩ := hh
      obtain ⟨u, rfl, ru⟩ := vals1 r1
      have hsz : p.shown.length ≤ sizeLine := by rw [← line_eq]; exact Nat.le_trans hw1.1 hw.2
      cases dp with
      | non => cases ru; exact PySem.P.repr_of_none ⟨.str _, H1, I.tok _, ⟨_, rfl⟩, by simpa [PyData.shown] using qq⟩
      | bl b => cases ru; exact PySem.P.repr_of_bool ⟨.str _, H1, I.tok _, ⟨_, rfl⟩, by simpa [PyData.shown] using qq⟩
      | int i =>
        obtain ⟨t, rfl⟩ := ru
        exact PySem.P.repr_of_int (by simpa [PyData.showable] using hw1.2) ⟨.str _, H1, I.tok _, ⟨_, rfl⟩, by simpa [PyData.shown] using qq⟩
      | str x =>
        obtain ⟨t, rfl⟩ := ru
        exact PySem.P.repr_of_str ⟨.str _, H1, I.tok _, ⟨_, rfl⟩, by simpa [PyData.shown] using qq⟩ (by simpa [PyData.shown] using hsz)
      | lst hq ds =>
        obtain ⟨as, rr⟩ := Dp.reads I _ _ _ (.lst hq ds) ru
        cases ru
        have hu := hu0
        have hd := SeqAt.depth_of_shaped hw.1
        exact repr_of_reads' rr hw1.2 (PyData.noDict_hsm (PyData.hasDict_of_canLay _ (SeqAt.canLay_of_shaped hw.1))) gd0 (by omega) (fun _ _ e => e) (fun h' u tk hk => ⟨.str _, H1, I.kept hk, ⟨_, rfl⟩, qq⟩) hsz
      | tup hq ds =>
        obtain ⟨as, rr⟩ := Dp.reads I _ _ _ (.tup hq ds) ru
        cases ru
        have hu := hu0
        have hd := SeqAt.depth_of_shaped hw.1
        exact repr_of_reads' rr hw1.2 (PyData.noDict_hsm (PyData.hasDict_of_canLay _ (SeqAt.canLay_of_shaped hw.1))) gd0 (by omega) (fun _ _ e => e) (fun h' u tk hk => ⟨.str _, H1, I.kept hk, ⟨_, rfl⟩, qq⟩) hsz
    · cases e
theorem c_repr (c0 : Cs k X) : CaY X (.builtin "repr") bRepr := c_reprW (by have := c0.room.un; omega) c0.gd
theorem alike_ints (ns : List Int) : PySem.W.AlikeAll (ns.map PyData.int) := by
  refine ⟨fun x hx y hy => ?_, fun x hx => ?_⟩
  · obtain ⟨i, _, rfl⟩ := List.mem_map.mp hx
    obtain ⟨j, _, rfl⟩ := List.mem_map.mp hy
    rfl
  · obtain ⟨i, _, rfl⟩ := List.mem_map.mp hx
    exact fun h => by cases h
theorem depth_ints : ∀ ns : List Int, PyData.depthAll (ns.map PyData.int) = 0
  | [] => rfl
  | n :: ns => by simp [PyData.depthAll, PyData.depth, depth_ints ns]
theorem reads_ints {h : Heap} : ∀ (ns : List Int) (us : List Value), Vals (ns.map V.int) us → ∃ as, ReadsAll h us (ns.map PyData.int) as
  | [], us, r => by cases r; exact ⟨_, .nil⟩
  | n :: ns, us, r => by
    cases r with
    | cons r1 r2 =>
      obtain ⟨as, hh⟩ := reads_ints ns _ r2
      obtain ⟨t, rfl⟩ := r1
      exact ⟨_, .cons (.int n t) hh⟩
theorem c_min (c0 : Cs k X) : CaY X (.builtin "min") bMin := caY fun Q φ H h xs vs z R r e q => by
  rcases xs with _ | ⟨d, _ | _⟩ <;> try (simp only [bMin] at e <;> cases e; done)
  obtain ⟨v, rfl, rd⟩ := r.one
  have fin : ∀ (a : Addr) (ds : List D) (vs : List V), v = .ref a → SqL X.K H a vs ∨ SqT X.K H a vs → RepL X.K φ H ds vs → ((intsOf ds).bind minI).map D.int = some z → ∃ r, CallR X (.builtin "min") r ∧ r [v] H Q := by
    intro a ds vs ev hq rr ez
    subst ev
    obtain ⟨m, e1, rfl⟩ := Option.map_eq_some_iff.mp ez
    obtain ⟨ns, e2, e3⟩ := Option.bind_eq_some_iff.mp e1
    have e4 := rr.intsOf e2
    subst e4
    cases ns with
    | nil => cases e3
    | cons n ns =>
      cases e3
      have q' : Q (.int (ns.foldl min n)) H := q φ H _ (Lat.refl _ _) R (.int _)
      refine ⟨fun us H' Q' => us = [.ref a] ∧ H' = H ∧ Q' (.int (ns.foldl min n)) H, ?_, rfl, rfl, q'⟩
      intro pins s σ H1 xs us Q1 I r1 hh
      obtain ⟨rfl, rfl, qq⟩ := hh
      rw [Vals.ref1 r1]
      have hu := c0.room.un
      have hd := depth_ints (n :: ns)
      have ha := alike_ints (n :: ns)
      simp only [List.map_cons] at ha hd
      have goal : ∀ (i : Nat) v h' tk bs, Reads h' v (PySem.W.minD (.int n) (ns.map .int)) bs → (∀ b o, s.heap.get? b = some o → h'.get? b = some o) → EP X pins σ Q1 v { s with heap := h', toks := tk } := by
        intro i v h' tk bs rr hk
        rw [PySem.W.minD_ints] at rr
        cases rr
        exact ⟨.int _, H1, I.kept hk, ⟨_, rfl⟩, qq⟩
      rcases hq with hq | hq
      · obtain ⟨its, rv, hl, hz⟩ := I.list hq
        obtain ⟨as, hr⟩ := reads_ints (h := s.heap) (n :: ns) its rv
        exact PySem.W.min_list_data c0.room.hd hl.isList (by simpa using hr) ha (by rw [hd]; omega) fun i v h' tk bs _ h2 h3 => goal i v h' tk bs h2 h3
      · obtain ⟨its, rv, hl, hz⟩ := I.tuple hq
        obtain ⟨as, hr⟩ := reads_ints (h := s.heap) (n :: ns) its rv
        exact PySem.W.min_tuple_data c0.room.hd hl (by simpa using hr) ha (by rw [hd]; omega) fun i v h' tk bs _ h2 h3 => goal i v h' tk bs h2 h3
  have lsts : ((lstOf h d).bind fun xs => (intsOf xs).bind minI).map D.int = some z → ∃ r, CallR X (.builtin "min") r ∧ r [v] H Q := fun e => by
    obtain ⟨m, e1, e2⟩ := Option.map_eq_some_iff.mp e
    obtain ⟨ys, e3, e4⟩ := Option.bind_eq_some_iff.mp e1
    obtain ⟨a, us, rfl, hq, rr⟩ := lst_at R rd e3
    exact fin a ys us rfl (.inl hq) rr (by rw [e4]; exact congrArg some e2)
  cases d
  case tup xs =>
    cases rd with
    | tup hq rr => exact fin _ _ _ rfl (.inr (SqT.of hq)) rr e
  all_goals exact lsts e
theorem c_max (c0 : Cs k X) : CaY X (.builtin "max") bMax := caY fun Q φ H h xs vs z R r e q => by
  rcases xs with _ | ⟨d, _ | _⟩ <;> try (simp only [bMax] at e <;> cases e; done)
  obtain ⟨v, rfl, rd⟩ := r.one
  have fin : ∀ (a : Addr) (ds : List D) (vs : List V), v = .ref a → SqL X.K H a vs ∨ SqT X.K H a vs → RepL X.K φ H ds vs → ((intsOf ds).bind maxI).map D.int = some z → ∃ r, CallR X (.builtin "max") r ∧ r [v] H Q := by
    intro a ds vs ev hq rr ez
    subst ev
    obtain ⟨m, e1, rfl⟩ := Option.map_eq_some_iff.mp ez
    obtain ⟨ns, e2, e3⟩ := Option.bind_eq_some_iff.mp e1
    have e4 := rr.intsOf e2
    subst e4
    cases ns with
    | nil => cases e3
    | cons n ns =>
      cases e3
      have q' : Q (.int (ns.foldl max n)) H := q φ H _ (Lat.refl _ _) R (.int _)
      refine ⟨fun us H' Q' => us = [.ref a] ∧ H' = H ∧ Q' (.int (ns.foldl max n)) H, ?_, rfl, rfl, q'⟩
      intro pins s σ H1 xs us Q1 I r1 hh
      obtain ⟨rfl, rfl, qq⟩ := hh
      rw [Vals.ref1 r1]
      have hu := c0.room.un
      have hd := depth_ints (n :: ns)
      have ha := alike_ints (n :: ns)
      simp only [List.map_cons] at ha hd
      have goal : ∀ (i : Nat) v h' tk bs, Reads h' v (PySem.W.maxD (.int n) (ns.map .int)) bs → (∀ b o, s.heap.get? b = some o → h'.get? b = some o) → EP X pins σ Q1 v { s with heap := h', toks := tk } := by
        intro i v h' tk bs rr hk
        rw [PySem.W.maxD_ints] at rr
        cases rr
        exact ⟨.int _, H1, I.kept hk, ⟨_, rfl⟩, qq⟩
      rcases hq with hq | hq
      · obtain ⟨its, rv, hl, hz⟩ := I.list hq
        obtain ⟨as, hr⟩ := reads_ints (h := s.heap) (n :: ns) its rv
        exact PySem.W.max_list_data c0.room.hd hl.isList (by simpa using hr) ha (by rw [hd]; omega) fun i v h' tk bs _ h2 h3 => goal i v h' tk bs h2 h3
      · obtain ⟨its, rv, hl, hz⟩ := I.tuple hq
        obtain ⟨as, hr⟩ := reads_ints (h := s.heap) (n :: ns) its rv
        exact PySem.W.max_tuple_data c0.room.hd hl (by simpa using hr) ha (by rw [hd]; omega) fun i v h' tk bs _ h2 h3 => goal i v h' tk bs h2 h3
  have lsts : ((lstOf h d).bind fun xs => (intsOf xs).bind maxI).map D.int = some z → ∃ r, CallR X (.builtin "max") r ∧ r [v] H Q := fun e => by
    obtain ⟨m, e1, e2⟩ := Option.map_eq_some_iff.mp e
    obtain ⟨ys, e3, e4⟩ := Option.bind_eq_some_iff.mp e1
    obtain ⟨a, us, rfl, hq, rr⟩ := lst_at R rd e3
    exact fin a ys us rfl (.inl hq) rr (by rw [e4]; exact congrArg some e2)
  cases d
  case tup xs =>
    cases rd with
    | tup hq rr => exact fin _ _ _ rfl (.inr (SqT.of hq)) rr e
  all_goals exact lsts e
theorem c_sqrt : CaY X (.builtin "math.isqrt") bSqrt := caY fun Q φ H h xs vs z R r e q => by
  rcases xs with _ | ⟨d, _ | _⟩ <;> try (simp only [bSqrt] at e <;> cases e; done)
  obtain ⟨v, rfl, rd⟩ := r.one
  cases rd <;> simp only [bSqrt] at e <;> try (cases e; done)
  rename_i a
  split at e
  · rename_i hz
    cases e
    have q' : Q (.int (Float64.isqrt a.toNat : Nat)) H := q φ H _ (Lat.refl _ _) R (.int _)
    refine ⟨fun us H' Q' => us = [.int a] ∧ H' = H ∧ Q' (.int (Float64.isqrt a.toNat : Nat)) H, ?_, rfl, rfl, q'⟩
    intro pins s σ H1 xs us Q1 I r1 hh
    obtain ⟨rfl, rfl, qq⟩ := hh
    obtain ⟨u, rfl, t, rfl⟩ := vals1 r1
    exact PySem.W.mg_isqrt hz.1 hz.2 ⟨.int _, H1, I.tok _, ⟨_, rfl⟩, qq⟩
  · cases e
theorem c_gcd : CaY X (.builtin "math.gcd") bGcd := caY fun Q φ H h xs vs z R r e q => by
  have key : ∃ a b, xs = [.int a, .int b] ∧ z = .int (Nat.gcd a.natAbs b.natAbs : Nat) := by
    unfold bGcd at e
    split at e
    · cases e; exact ⟨_, _, rfl, rfl⟩
    · cases e
  obtain ⟨a, b, rfl, rfl⟩ := key
  cases r with
  | cons r1 r2 =>
    cases r2 with
    | cons r3 r4 =>
      cases r4
      cases r1
      cases r3
      exact ⟨_, cr_gcd, _, _, rfl, q φ H _ (Lat.refl _ _) R (.int _)⟩
/-- f(e, ..), f a module's name for a built-in function -/
theorem s_bM {x : Str} {id : String} {p : Pos} {o : Hm → List D → Option D} (hc : CaY X (.builtin id) o) (hg : Gl X x) (hm : X.mg x = some (.builtin id)) (ha : SA X cl W (e :: es) fa) (hdb : (x == ("__debug__" : Str)) = false := by decide)
    (he : starEach (e :: es) X.env = (false, eval e X.env) :: starEach es X.env := by rfl) (hpl : (backTo pos (starEach es X.env)).any (·.1) = false := by rfl) : SE X cl W (.Call (.Name x p) (e :: es) [] pos) (eB o fa) := PE.of (pe_callBfun hc hg hm ha hdb he hpl) fun σ H Q p =>
  seq1 (k := fun xs h1 => ofO (o h1 xs) h1) p fun φ H1 h1 xs vs R r P => ⟨cl, fun c d H' => W c d σ H', φ, h1, xs, R, r, P⟩
/-! ### t[::-1] -/
theorem fm_congr {α β : Type} {f g : α → Option β} : ∀ (l : List α), (∀ x ∈ l, f x = g x) → l.filterMap f = l.filterMap g
  | [], _ => rfl
  | x :: l, h => by
    have h1 := h x List.mem_cons_self
    have h2 := fm_congr l fun y hy => h y (List.mem_cons_of_mem _ hy)
    simp only [List.filterMap_cons, h1, h2]
theorem pick_rev (xs : Array Value) : ((List.range xs.size).filterMap fun (m : Nat) => xs[((xs.size : Int) - 1 + (m : Int) * (-1)).toNat]?).toArray = xs.toList.reverse.toArray := by
  rw [← PySem.W.krv_pick]
  unfold slicePick
  rw [PySem.W.krv_bounds]
  show _ = ((sliceRange ((xs.size : Int) - 1) (-1) (-1)).filterMap (xs[·]?)).toArray
  rw [PySem.W.krv_sliceRange, List.filterMap_map]
  congr 1
  refine fm_congr _ fun m hm => ?_
  have hm := List.mem_range.mp hm
  have e : ((xs.size : Int) - 1 + (m : Int) * (-1)).toNat = xs.size - 1 - m := by omega
  rw [e]
  rfl
end
section
variable {prog : Program} {w : World} {A : Around} {E : Value → Shared → Prop} {s : Shared}
theorem placesR (n : Nat) : Builtin.Slice.slicePlaces ((n : Int) - 1) (-1) (-1) = n := by
  unfold Builtin.Slice.slicePlaces
  rw [if_neg (by decide)]
  by_cases h : (n : Int) - 1 > -1
  · rw [if_pos h]
    have : ((n : Int) - 1 - -1 - 1) / (- -1) + 1 = n := by
      rw [show (- -1 : Int) = 1 by decide, Int.ediv_one]; omega
    rw [this]; rfl
  · rw [if_neg h]
    have : n = 0 := by omega
    subst this; rfl
theorem appliedR {sl : Addr} {vs : Value} {n : Nat} {Q : Int × Int × Nat → Shared → Prop} (hs : s.heap.IsSliceOf sl .none .none vs) (ps : IsPart vs (some (-1))) (h : Q ((n : Int) - 1, -1, n) s) :
    wpAny (model prog w) A (Builtin.Slice.sliceApplied (.ref sl) (pure (n : Int))) Q E s := by
  obtain ⟨o, ho, _, hd⟩ := id hs
  unfold Builtin.Slice.sliceApplied Builtin.Slice.sliceFields
  refine wpAny_bind (wpAny_bind (wpAny_field ho hd (x := .none) rfl (wpAny_bind (wpAny_field ho hd (x := .none) rfl (wpAny_bind (wpAny_field ho hd (x := vs) rfl (wpAny_pure ?_)))))))
  refine wpAny_bind (HT.slicePart_ ps ?_)
  show wpAny _ _ (if ((-1 : Int) == 0) = true then _ else _) _ _ s
  rw [if_neg (by decide)]
  refine wpAny_bind (slicePart_none (wpAny_bind (slicePart_none (wpAny_bind (wpAny_pure ?_)))))
  show wpAny _ _ (pure ((n : Int) - 1, (-1 : Int), Builtin.Slice.slicePlaces ((n : Int) - 1) (-1) (-1))) _ _ s
  rw [placesR]
  exact wpAny_pure h
theorem get_tup_rev {t sl : Addr} {items : Array Value} {vs : Value} {Q : Value → Shared → Prop} (ht : IsTup s.heap t items) (hs : s.heap.IsSliceOf sl .none .none vs) (ps : IsPart vs (some (-1)))
    (h : Q (.ref s.heap.objs.size) { s with heap := s.heap.push { cls := .type "tuple", data := .seq items.toList.reverse.toArray } }) (hsz : items.size ≤ sizeLine) : wpAny (model prog w) A (getItem (.ref t) (.ref sl)) Q E s := by
  obtain ⟨o, ho, hc, hd⟩ := id hs
  have T : s.TypeIs (.ref sl) "slice" := ⟨o, ho, hc⟩
  unfold getItem
  with_reducible refine wpAny_holding ?_
  first | refine wpAny_bind (wpAny_pure ?_) | skip
  refine wpAny_bind (wpAny_sequenceKey ht.typeIs (by decide) (wpAny_bind (wpAny_callSpecial?_slot (name := Str.ofString "__getitem__") ht.typeIs PyProof.Rows.slot_tuple_getitem (wpAny_call_entry PyProof.Rows.slot_tuple_getitem ht.typeIs PyProof.Rows.entry_tuple_getitem ?_ (PyProof.Rows.args_tuple_getitem _ _)))))
  show wpAny _ _ (Builtin.Tuple.tupleItemsOf (.ref t) >>= _) _ _ s
  refine wpAny_bind (tupleItemsOf_ ht (wpAny_bind (wpAny_typeOf T ?_)))
  rw [if_pos (by decide)]
  refine wpAny_bind (appliedR hs ps ?_)
  have no : ¬ ((((items.size : Int) - 1 == 0) && (-1 : Int) == 1 && items.size == items.size) = true) := by
    intro q
    rw [Bool.and_eq_true, Bool.and_eq_true] at q
    exact absurd q.1.2 (by decide)
  show wpAny _ _ (if ((((items.size : Int) - 1 == 0) && (-1 : Int) == 1 && items.size == items.size) = true) then _ else _) _ _ s
  rw [if_neg no, pick_rev]
  have sz : sizeOk (.seq items.toList.reverse.toArray) := by
    show items.toList.reverse.toArray.size ≤ sizeLine
    simpa using hsz
  first
    | exact wpAny_bind (m := Builtin.Tuple.tupleExact _) (wpAny_newObj_type (wpAny_pure ⟨_, rfl, wpAny_pure h⟩) sz)
    | exact wpAny_bind (m := Builtin.Tuple.tupleExact _) (wpAny_newObj_type (wpAny_bind (wpAny_pure (wpAny_pure ⟨_, rfl, wpAny_pure h⟩))) sz)
    | exact wpAny_bind (wpAny_bind (m := Builtin.Tuple.tupleExact _) (wpAny_newObj_type (wpAny_pure (wpAny_pure ⟨_, rfl, wpAny_pure h⟩)) sz))
    | exact wpAny_bind (wpAny_bind (m := Builtin.Tuple.tupleExact _) (wpAny_newObj_type (wpAny_pure ⟨_, rfl, wpAny_pure h⟩) sz))
end
section
variable {X : Cx} {cl : Nat → Addr} {W : WX} {e a b c : Expr} {es : List Expr} {f g q : Ev} {fa : Av} {t t' : Tv} {pos : Pos} {k : Nat}
theorem RepL.rev {K : PySem.W.Frag} {φ : List Addr} {H : Hp} : ∀ {ds : List D} {vs : List V}, RepL K φ H ds vs → RepL K φ H ds.reverse vs.reverse
  | [], _, r => by cases r; exact .nil
  | d :: ds, _, r => by
    cases r with
    | cons h r => simpa using (RepL.rev r).append (.cons h .nil)
def tRevT (K : PySem.W.Frag) (te : TE) : TE := fun σ H Q => te σ H fun x H1 => ∃ a xs, x = .ref a ∧ SqT K H1 a xs ∧ ∀ p, H1 p = none → Q (.ref p) (upd H1 p (.tup xs.reverse))
theorem pe_revT {te : TE} {kk : Nat} {p1 p2 p3 : Pos} (he : PE X e te) : PE X (.Subscript e (.Slice none none (some (.UnaryOp .USub (.Constant (.int 1) kk p1) p2)) p3) pos) (tRevT X.K te) := by
  refine ⟨fun pins s σ H Q I h => ?_⟩
  refine Subscript_ (thn (he.run pins s σ H _ I h) fun v s1 ⟨x, H1, I1, r1, a, xs, ex, hx, q⟩ => ?_)
  subst ex
  cases r1
  have st : PO X (some (.UnaryOp .USub (.Constant (.int 1) kk p1) p2)) (tPart (tUn (rU fun i => .int (-i)) (L2.tC (.int 1)))) := po_some (pe_un un_neg pe_int)
  refine wpAny_Slice (thn (po_none.run pins s1 σ H1 (fun o H2 => o = none ∧ H2 = H1) I1 ⟨rfl, rfl⟩) fun vl s2 ⟨l, H2, I2, pl, el, e2⟩ => ?_)
  subst el e2
  cases pl
  refine thn (po_none.run pins s2 σ H2 (fun o H3 => o = none ∧ H3 = H2) I2 ⟨rfl, rfl⟩) fun vu s3 ⟨u, H3, I3, pu, eu, e3⟩ => ?_
  subst eu e3
  cases pu
  refine thn (st.run pins s3 σ H3 (fun o H4 => o = some (-1) ∧ H4 = H3) I3 ⟨1, rfl, -1, rfl, rfl, rfl⟩) fun vs s4 ⟨o, H4, I4, ps, eo, e4⟩ => ?_
  subst eo e4
  have I5 : Inv X pins σ H4 { s4 with heap := s4.heap.push { cls := .type "slice", data := .fields #[.none, .none, vs] } } := I4.kept (t' := s4.toks) fun b ob q => Heap.get?_push_of_some _ q
  obtain ⟨its, r, ht, hz⟩ := I5.tuple hx
  have hlen := r.length
  show wpAny (model X.prog X.w) X.A (subscriptTail e (.Slice none none (some (.UnaryOp .USub (.Constant (.int 1) kk p1) p2)) p3) (.ref a) (.ref s4.heap.objs.size)) (EP X pins σ Q) X.xe { s4 with heap := s4.heap.push { cls := .type "slice", data := .fields #[.none, .none, vs] } }
  refine tail_any (ops := [.ref a, .ref s4.heap.objs.size]) ht.typeIs (PyProof.Rows.slot_tuple_getitem.lookup) ?_ (by with_unfolding_all rfl)
  refine get_tup_rev ht (Heap.IsSliceOf.new _ .none .none vs) ps ?_ (by rw [List.size_toArray]; omega)
  refine ⟨.ref _, _, I5.laid (t' := s4.toks) (o := .tup xs.reverse) (fun b ob q => Heap.get?_push_of_some _ q) (Nat.le_refl _) ?_, rfl, q _ (I5.hok.fresh (Nat.le_refl _))⟩
  exact ⟨by rw [List.length_reverse]; exact hz, _, r.reverse, IsTup.new _ _⟩
theorem s_revT {kk : Nat} {p1 p2 p3 : Pos} (ha : SE X cl W a f) : SE X cl W (.Subscript a (.Slice none none (some (.UnaryOp .USub (.Constant (.int 1) kk p1) p2)) p3) pos) (e1 uRev f) := PE.of (pe_revT ha) fun σ H Q p => by
  refine seq1 (k := fun x h1 => ofO (uRev h1 x) h1) p fun φ H1 h1 x v R rx P => ?_
  cases rx <;> simp only [uRev, ofO] at P <;> try (exact P.elim)
  rename_i hq rr
  exact ⟨_, _, rfl, SqT.of hq, fun p hp => P φ _ _ (Lat.new hp) (R.new hp) (.tup upd_same (RepL.mono (List.prefix_refl _) (Per.new hp) _ _ (RepL.rev rr)))⟩
end
end Y
end

section
set_option Elab.async false
set_option linter.all false
set_option maxRecDepth 100000
set_option maxHeartbeats 2000000
/-! YK: the law's end. -/
namespace Y
open PySem PySem.Spec PyProof.Rows L2

/-- the script alone is tracked, or nothing -/
def scrH (t : Bool) (a : Addr) (vs : List Value) (ns : List Int) : Hp := fun b => if t = true ∧ b = a then some (.frz { cls := .type "list", data := .seq vs.toArray } (.lst (ns.map V.int))) else none
theorem scr_some {t : Bool} {a b : Addr} {vs : List Value} {ns : List Int} {u : HO} (e : scrH t a vs ns b = some u) : t = true ∧ b = a ∧ u = .frz { cls := .type "list", data := .seq vs.toArray } (.lst (ns.map V.int)) := by
  unfold scrH at e
  split at e
  · rename_i h; cases e; exact ⟨h.1, h.2, rfl⟩
  · cases e
theorem scr_at {a : Addr} {vs : List Value} {ns : List Int} : scrH true a vs ns a = some (.frz { cls := .type "list", data := .seq vs.toArray } (.lst (ns.map V.int))) := by simp [scrH]
section
variable {P : Program} {w : World} {K : PySem.W.Frag} {mg mb : Str → Option Value} {k : Nat} {fa a : Addr} {fd : FuncData} {x : Str} {s₁ : Shared} {vs : List Value} {ns : List Int} {d : Fn} {cl : Nat → Addr}
/-- what the law's def must do: True, whatever the script -/
def LawTrue (d : Fn) (ns : List Int) : Prop := ∃ h, d [.sq (ns.map .int)] [] = .ok (.bl true) h
theorem rep_ints (φ : List Addr) (H : Hp) : ∀ ns : List Int, RepL K φ H (ns.map D.int) (ns.map V.int)
  | [] => .nil
  | n :: ns => .cons (.int n) (rep_ints φ H ns)
theorem law_run (KX : K.In s₁.heap) (gm : s₁.heap.Ns mainGlobals mg) (gb : s₁.heap.Ns builtinsNs mb) (bb : ∀ x : Str, x ≠ "__name__" → mb x = bootBuiltins x) (nl : s₁.heap.NoLimit) (g0 : s₁.gens = #[])
    (ea : s₁.heap.get? a = some { cls := .type "list", data := .seq vs.toArray }) (ai : IntsAre vs ns) (le : ns.length ≤ sizeLine) (rm : Room k callerA)
    (F : ∀ base : Heap, K.In base → base.Ns mainGlobals mg → FnG P w K mg base k fa fd [x] (spP K cl 1 d)) (bi : ∀ (s : Shared) (u : Value), BindsTo s fd ⟨[u], []⟩ [(x, u)]) (T : LawTrue d ns) :
    codeAny (model P w) callerA (.call (.ref fa) ⟨[.ref a], []⟩) (fun r s' => r = .ok (.ret (.bool true)) ∧ OldK s₁.heap s'.heap ∧ s'.os = s₁.os ∧ AllBare s'.gens) s₁ := by
  have rv := vals_ints ai
  have len := ai.length
  have main : ∀ t : Bool, (t = true → K.lookup a = none) → FzL K (scrH t a vs ns) a (ns.map V.int) → codeAny (model P w) callerA (.call (.ref fa) ⟨[.ref a], []⟩) (fun r s' => r = .ok (.ret (.bool true)) ∧ OldK s₁.heap s'.heap ∧ s'.os = s₁.os ∧ AllBare s'.gens) s₁ := by
    intro t ht hz
    have old : ∀ {b : Addr} {o : Obj}, s₁.heap.get? b = some o → scrH t a vs ns b = none → (hidT s₁.heap (scrH t a vs ns)).get? b = some o := fun e n => hidT_get e n
    have free : ∀ {b : Addr} {o : Obj}, s₁.heap.get? b = some o → o ≠ { cls := .type "list", data := .seq vs.toArray } → scrH t a vs ns b = none := fun {b o} e z => by
      cases q : scrH t a vs ns b with
      | none => rfl
      | some u =>
        obtain ⟨_, rfl, _⟩ := scr_some q
        rw [ea] at e
        exact absurd (Option.some.inj e).symm z
    have nsv : ∀ {b : Addr} {m : Str → Option Value}, s₁.heap.Ns b m → (hidT s₁.heap (scrH t a vs ns)).Ns b m := fun {b m} ⟨o, es, ep, e, dd, r⟩ => ⟨o, es, ep, old e (free e fun z => by rw [z] at dd; cases dd), dd, r⟩
    have KB : K.In (hidT s₁.heap (scrH t a vs ns)) := fun b o e => old (KX b o e) (by
      cases q : scrH t a vs ns b with
      | none => rfl
      | some u =>
        obtain ⟨z, rfl, _⟩ := scr_some q
        rw [ht z] at e
        cases e)
    have ok : HOk P w (scrH t a vs ns) s₁.heap := fun b u e => by
      obtain ⟨_, rfl, rfl⟩ := scr_some e
      exact ⟨ea, by rw [List.length_map]; exact le, vs, _, rv, ea⟩
    have env : Env0 P w K mg (hidT s₁.heap (scrH t a vs ns)) callerA [] s₁ (scrH t a vs ns) :=
      ⟨rfl, ⟨KB, nsv gm, ⟨mb, nsv gb, bb⟩, let ⟨m, h1, h2⟩ := nl; ⟨m, nsv h1, h2⟩⟩, fun b o e => of_hidT e, Nat.le_of_eq (hidT_size _ _), trivial, fun b hb => absurd (show b ∈ ([] : List Addr) from hb) (by simp), ok, .of_eq g0⟩
    obtain ⟨h1, e1⟩ := T
    have wish : spP K cl 1 d [.ref a] (scrH t a vs ns) (fun v _ => v = .bl true) (fun _ _ _ => False) := by
      refine ⟨[], [.sq (ns.map D.int)], [], rfl, .cons (.sq hz (rep_ints _ _ ns)) .nil, ⟨rfl, .nil, fun k a o e => by simp at e⟩, ?_⟩
      rw [e1]
      intro φ' H' v _ _ r
      cases r
      rfl
    refine codeAny_mono ((F _ KB (nsv gm)).run callerA [] s₁ (scrH t a vs ns) ⟨[.ref a], []⟩ [.ref a] [.ref a] _ _ rm rfl env (bi s₁ (.ref a)) (.cons rfl .nil) wish) fun r s' h => ?_
    cases r with
    | error e =>
      obtain ⟨_, _, _, _, _, _, _, _, _, _, _, _, z⟩ := h
      exact z.elim
    | ok fl =>
      cases fl with
      | ret u =>
        obtain ⟨v, H', eo, br, un, ok', ru, rfl⟩ := h
        obtain rfl : u = Value.bool true := ru
        refine ⟨rfl, OldK.of_keep fun b o e => ?_, eo, br⟩
        cases q : scrH t a vs ns b with
        | none => exact un.keep b o e q (fun z => absurd (show b ∈ ([] : List Addr) from z) (by simp)) (by simp)
        | some u =>
          obtain ⟨z1, rfl, rfl⟩ := scr_some q
          obtain ⟨e3, _⟩ := ok' b _ (un.frzs b _ _ q)
          rw [ea] at e
          cases e
          exact e3
      | next => exact False.elim h
      | brk => exact False.elim h
      | cont => exact False.elim h
  cases hk : K.lookup a with
  | none => exact main true (fun _ => hk) (.inl ⟨_, scr_at⟩)
  | some o =>
    have e := KX a o hk
    rw [ea] at e
    cases e
    exact main false (fun z => nomatch z) (.inr (.inr ⟨_, vs.toArray, _, hk, rfl, rfl, rfl, by rw [List.size_toArray, len]; exact le, by simpa using rv⟩))
theorem walkG {l : PySem.W.OpenLaw} {n k : Nat} {q : Program} {loose : List Str} {XP : (Str → Option Value) → Heap → Prop} {YP : World → Heap → Prop} {dr : DefRec} {K : Params → PySem.W.Frag} {x : Str} {d : Fn} (hn : l.most = some n) (hz : n ≤ sizeLine) (df : dr.params.defaults = []) (rm : Room k callerA)
    (hY : ∀ (w : World) (h : Heap), YP w h → (K w.params).In h) (T : ∀ ns : List Int, ns.length ≤ n → LawTrue d ns)
    (F : ∀ (w : World) (mg : Str → Option Value) (fa : Addr) (h : Heap), (K w.params).In h → h.Ns mainGlobals mg → mg dr.name = some (.ref fa) →
      ∃ (fd : FuncData) (cl : Nat → Addr), (∀ (s : Shared) (u : Value), BindsTo s fd ⟨[u], []⟩ [(x, u)]) ∧ ∀ base : Heap, (K w.params).In base → base.Ns mainGlobals mg → FnG l.prog w (K w.params) mg base k fa fd [x] (spP (K w.params) cl 1 d)) :
    PySem.W.WalkO q loose XP YP l.row.toRowW dr [] (fun f vs => PySem.call f vs) := by
  refine Att.attach_call hn df fun w s₀ s₁ mg mb fa o pm cd doc a vs ns G Y _ _ _ em ea ai le g0 => ?_
  have KX := hY w _ Y
  obtain ⟨fd, cl, b, f⟩ := F w mg fa _ KX G.T.g em
  exact law_run KX G.T.g G.T.b G.T.builtins G.T.nolimit g0 ea ai (Nat.le_trans le hz) rm f b (T ns le)
end
end Y
end

section
set_option Elab.async false
set_option linter.all false
set_option maxRecDepth 100000
set_option maxHeartbeats 2000000
/-! YL: what a generator prints with. -/
namespace Y
open PySem PySem.Spec PyProof.Rows L2

/-- any sequence that is never changed, walked -/
def iA (f : Ev) : Iv := fun σ h => (f σ h).bind fun x h1 => match x with
  | .tup xs => .ok xs h1
  | .fl xs => .ok xs h1
  | .sq xs => .ok xs h1
  | _ => .bad
section
variable {X : Cx} {cl : Nat → Addr} {W : WX} {tg e a b : Expr} {f : Ev} {fa : Av} {pos : Pos} {k : Nat}
theorem pi_seq {te : TE} (he : PE X e te) : PI X tg e (fun σ H R => te σ H fun x H1 => ∃ a, x = .ref a ∧ (((∃ xs, SqL X.K H1 a xs) ∧ R (Itl X.K a) H1) ∨ ((∃ xs, SqT X.K H1 a xs) ∧ R (Itt X.K a) H1))) := by
  refine ⟨fun pins s σ H R I h => thn (he.run pins s σ H _ I h) fun v s1 ⟨x, H1, I1, r1, a, ex, q⟩ => ?_⟩
  subst ex
  cases r1
  rcases q with ⟨⟨xs, hq⟩, q⟩ | ⟨⟨xs, hq⟩, q⟩
  · obtain ⟨its, rv, p, hz⟩ := I1.list hq
    refine wpAny_pyIter_list p.isList ?_
    exact pi_one (tk := s1.toks) I1 _ (turn_list a _) ⟨_, Heap.get?_push_size _ rfl, rfl, rfl⟩ q
  · obtain ⟨its, rv, p, hz⟩ := I1.tuple hq
    refine wpAny_pyIter_tuple (show s1.heap.IsTuple a its.toArray from p) ?_
    exact pi_one (tk := s1.toks) I1 _ (turn_tuple a _) ⟨_, Heap.get?_push_size _ rfl, rfl, rfl⟩ q
theorem i_any (ha : SE X cl W e f) : SI X cl W tg e (iA f) := PI.of (pi_seq ha) fun σ H R p =>
  seqI (R1 := RR X.K) (k := fun x h1 => match x with | .tup xs => .ok xs h1 | .fl xs => .ok xs h1 | .sq xs => .ok xs h1 | _ => .bad) p (fun φ H1 h1 x v ds h2 R1 r e q => by
    cases x <;> simp at e
    · obtain ⟨rfl, rfl⟩ := e
      cases r with
      | tup hq rr => exact ⟨_, rfl, .inr ⟨⟨_, SqT.of hq⟩, q _ R1 (drv_tup (SqT.of hq) rr)⟩⟩
    · obtain ⟨rfl, rfl⟩ := e
      cases r with
      | fl hq rr => exact ⟨_, rfl, .inl ⟨⟨_, .inl (.inr ⟨_, hq⟩)⟩, q _ R1 (drv_lst (fun H' p => .inl (.inr ⟨_, p.frz _ _ _ hq⟩)) rr)⟩⟩
    · obtain ⟨rfl, rfl⟩ := e
      cases r with
      | sq hq rr => exact ⟨_, rfl, .inl ⟨⟨_, hq.sq⟩, q _ R1 (drv_lst (fun H' p => (hq.per p).sq) rr)⟩⟩) fun x h1 => by cases x <;> simp

theorem drv_own {K : PySem.W.Frag} {φ : List Addr} {H : Hp} {n : Nat} {p : Addr} {ds : List D} (hk : φ[n]? = some p) : DrvG K φ H (gd (some n) ds) (Itl K p) ds := fun φ' H' h l R hg => by
  have hk' := pre_get l.pre hk
  have hg' : h[n]? = some (.lst ds) := of_decide_eq_true hg
  obtain ⟨ob, h1, h2⟩ := R.at hk'
  rw [hg'] at h1
  cases h1
  cases h2 with
  | lst hh rr =>
    rename_i vs
    refine ⟨fun i d e => ?_, vs, .of hh, by rw [rr.length]; exact Nat.le_refl _⟩
    obtain ⟨v, q1, q2⟩ := rr.get e
    refine ⟨⟨vs, v, .of hh, q1⟩, fun x H2 y => ?_⟩
    obtain ⟨rfl, y⟩ := y
    have ev := y vs (.of hh)
    rw [q1] at ev
    cases ev
    exact ⟨Lat.refl _ _, R, q2⟩
theorem i_X (ha : SE X cl W e f) : SI2 X cl W tg e (iX f) := PI.of (pi_seq ha) fun σ H R p => by
  obtain ⟨φ, st, h0, S, R0, P⟩ := p
  refine ⟨φ, st, h0, S, R0, ?_⟩
  simp only [iX] at P
  cases e : f st h0 with
  | bad => simp only [e, Rs.bind] at P
  | ex _ _ => simp only [e, Rs.bind] at P; exact P
  | ok x h1 =>
    simp only [e, Rs.bind] at P
    intro φ1 H1 v l1 r1 q1
    cases q1 with
    | tup hq rr => exact ⟨_, rfl, .inr ⟨⟨_, SqT.of hq⟩, P φ1 H1 _ l1 r1 (Drv.g (drv_tup (SqT.of hq) rr))⟩⟩
    | fl hq rr => exact ⟨_, rfl, .inl ⟨⟨_, .inl (.inr ⟨_, hq⟩)⟩, P φ1 H1 _ l1 r1 (Drv.g (drv_lst (fun H' p => .inl (.inr ⟨_, p.frz _ _ _ hq⟩)) rr))⟩⟩
    | sq hq rr => exact ⟨_, rfl, .inl ⟨⟨_, hq.sq⟩, P φ1 H1 _ l1 r1 (Drv.g (drv_lst (fun H' p => (hq.per p).sq) rr))⟩⟩
    | loc hk =>
      obtain ⟨ob, h2, h3⟩ := r1.at hk
      dsimp only at P
      rw [h2] at P
      cases h3 with
      | lst hh rr => exact ⟨_, rfl, .inl ⟨⟨_, .of hh⟩, P φ1 H1 _ l1 r1 (drv_own hk)⟩⟩
      | _ => exact P.elim
    | _ => exact P.elim
theorem i_P {it : Iv} (hi : SI X cl W tg e it) : SI2 X cl W tg e (iP it) := PI.of hi fun σ H R p => by
  obtain ⟨φ, st, h0, S, R0, P⟩ := p
  refine ⟨φ, st, h0, S, R0, ?_⟩
  simp only [iP] at P
  cases e : it st h0 with
  | bad => simp only [e, Rs.bind] at P
  | ex _ _ => simp only [e, Rs.bind] at P; exact P
  | ok ds h1 =>
    simp only [e, Rs.bind] at P
    exact fun φ' H' J l r dv => P φ' H' J l r dv.g
end
/-! ### the context of a comprehension's block -/
section
variable {X : Cx} {k : Nat}
theorem Cs.blk {s : Shared} {H : Hp} {sc : Scope} {ce : Env} {fp : List Addr} (c : Cs k X) : Cs k (X.blk s H sc ce fp) := ⟨c.room, c.gd, c.calm, c.nd⟩
theorem takes0 {Y : Cx} : Takes Y W0 := fun u s' ⟨_, _, _, _, _, _, _, _, _, _, _, _, _, _, _, _, w⟩ => w.elim
end

/-! ### a def of the program -/
def Def (P : Program) (w : World) (K : PySem.W.Frag) (mg : Str → Option Value) (base : Heap) (k : Nat) (x : Str) (ps : List Str) (sp : Sp) : Prop :=
  ∃ (f : Addr) (fd : FuncData), mg x = some (.ref f) ∧ PySem.W.keepIn K (.ref f) = true ∧ Binds K fd ps [] ∧ FnG P w K mg base k f fd ps sp
section
variable {X : Cx} {cl : Nat → Addr} {W : WX} {e : Expr} {es : List Expr} {fa : Av} {pos p : Pos} {k j n : Nat} {x : Str} {ps : List Str} {d : Fn} {dl : FnL}
theorem q_call (F : Def X.prog X.w X.K X.mg X.base j x ps (spP X.K cl n d)) (hj : j ≤ k) (c : Cs k X) (tk : Takes X W) (ha : SA X cl W (e :: es) fa) (hal : ∀ σ h xs h', fa σ h = .ok xs h' → xs.length = (e :: es).length) (hn : (e :: es).length = n := by rfl) (hg : Gl X x := by rfl) (hdb : (x == ("__debug__" : Str)) = false := by decide)
    (he : starEach (e :: es) X.env = (false, eval e X.env) :: starEach es X.env := by rfl) (hpl : (backTo pos (starEach es X.env)).any (·.1) = false := by rfl) : SE X cl W (.Call (.Name x p) (e :: es) [] pos) (eCall d fa) := by
  obtain ⟨f, fd, hm, hk, hb, G⟩ := F
  exact s_call (G.mono hj) c tk hg hm hk hb hn hal ha hdb he hpl
theorem q_callL (F : Def X.prog X.w X.K X.mg X.base j x ps (spL X.K cl n dl)) (hj : j ≤ k) (c : Cs k X) (tk : Takes X W) (ha : SA X cl W (e :: es) fa) (hal : ∀ σ h xs h', fa σ h = .ok xs h' → xs.length = (e :: es).length) (hn : (e :: es).length = n := by rfl) (hg : Gl X x := by rfl) (hdb : (x == ("__debug__" : Str)) = false := by decide)
    (he : starEach (e :: es) X.env = (false, eval e X.env) :: starEach es X.env := by rfl) (hpl : (backTo pos (starEach es X.env)).any (·.1) = false := by rfl) : SL X cl W (.Call (.Name x p) (e :: es) [] pos) (lCall dl fa) := by
  obtain ⟨f, fd, hm, hk, hb, G⟩ := F
  exact l_call (G.mono hj) c tk hg hm hk hb hn hal ha hdb he hpl
theorem q_call0 (F : Def X.prog X.w X.K X.mg X.base j x ps (spP X.K cl 0 d)) (hj : j ≤ k) (c : Cs k X) (tk : Takes X W) (hg : Gl X x := by rfl) (hdb : (x == ("__debug__" : Str)) = false := by decide) : SE X cl W (.Call (.Name x p) [] [] pos) (eCall d aN) := by
  obtain ⟨f, fd, hm, hk, hb, G⟩ := F
  exact s_call0 (G.mono hj) c tk hg hm hk hb hdb
end
end Y
end

section
set_option Elab.async false
set_option linter.all false
set_option maxRecDepth 100000
set_option maxHeartbeats 2000000
/-! YM: the pen: what is drawn. -/
namespace Y
open PySem L2

def bPen (i0 q m : Int) : Sv := sSeq (sAsg (gN 1) (eC (.int i0)))
    (sSeq (sFor (iA (eV 0)) (gN 2) (sAsg (gN 1) (Y.e2 oMod (eB bInt (aC (Y.e2 oAdd (Y.e2 oMul (eV 1) (eC (.int q))) (eV 2)) (aN))) (eC (.int m)))))
    (sRet (eDct (pC (eC (.str "cells")) (eFrz (lB mList (aC (eV 0) (aN)))) (pC (eC (.str "at")) (eC (.int 0)) (pC (eC (.str "digits")) (eC (.int 0)) (pC (eC (.str "count")) (eC (.int 0)) (pC (eC (.str "fold")) (eV 1) (pN)))))))))
/-- the draw's last part -/
def bLast (cq ca ex dv : Int) : Sv := (sSeq (sIf (Y.tB (Y.e2 oGt (Y.e2 oIx (eV 0) (eC (.str "digits"))) (eC (.int 0)))) (sSeq (sAsg (gN 3) (Y.e2 oMod (eB bInt (aC (Y.e2 oIx (eV 0) (eC (.str "digits"))) (aN))) (eV 1)))
    (sSeq (sStore (eV 0) (eC (.str "digits")) (Y.e2 oDiv (Y.e2 oIx (eV 0) (eC (.str "digits"))) (eV 1)))
    (sRet (eV 3)))) (sPass))
    (sSeq (sAsg (gN 4) (Y.e2 oAdd (Y.e2 oAdd (Y.e2 oIx (eV 0) (eC (.str "fold"))) (Y.e2 oMul (Y.e2 oIx (eV 0) (eC (.str "count"))) (eC (.int cq)))) (eC (.int ca))))
    (sRet (Y.e2 oMod (Y.e2 oDiv (eB bInt (aC (Y.e2 oMod (Y.e2 oPow (eV 4) (eC (.int ex))) (eC (.int 2305843009213693951))) (aN))) (eC (.int dv))) (eV 1)))))
def bDraw (fq fm cq ca ex dv : Int) : Sv := sSeq (sStore (eV 0) (eC (.str "count")) (Y.e2 oAdd (Y.e2 oIx (eV 0) (eC (.str "count"))) (eC (.int 1))))
    (sSeq (sIf (Y.tAnd (Y.tB (Y.e2 oEq (Y.e2 oIx (eV 0) (eC (.str "digits"))) (eC (.int 0)))) (Y.tB (Y.e2 oLt (Y.e2 oIx (eV 0) (eC (.str "at"))) (eB bLen (aC (Y.e2 oIx (eV 0) (eC (.str "cells"))) (aN)))))) (sSeq (sAsg (gN 2) (Y.e2 oIx (Y.e2 oIx (eV 0) (eC (.str "cells"))) (Y.e2 oIx (eV 0) (eC (.str "at")))))
    (sSeq (sStore (eV 0) (eC (.str "at")) (Y.e2 oAdd (Y.e2 oIx (eV 0) (eC (.str "at"))) (eC (.int 1))))
    (sIf (Y.tB (Y.e2 oGe (eV 2) (Y.e2 oPow (eC (.int 10)) (eC (.int 18))))) (sStore (eV 0) (eC (.str "digits")) (Y.e2 oSub (eV 2) (Y.e2 oPow (eC (.int 10)) (eC (.int 18))))) (sStore (eV 0) (eC (.str "fold")) (Y.e2 oMod (eB bInt (aC (Y.e2 oAdd (Y.e2 oMul (Y.e2 oIx (eV 0) (eC (.str "fold"))) (eC (.int fq))) (eV 2)) (aN))) (eC (.int fm))))))) (sPass))
    (bLast cq ca ex dv))
def dPen (i0 q m : Int) : Fn := fnK 3 (bPen i0 q m)
def dDraw (fq fm cq ca ex dv : Int) : Fn := fnP 5 (bDraw fq fm cq ca ex dv)
/-- the pen as it lies in the heap -/
def kvP (cs : List Int) (p g c f : Int) : List (Key × D) := [(.inr "cells", .fl (cs.map .int)), (.inr "at", .int p), (.inr "digits", .int g), (.inr "count", .int c), (.inr "fold", .int f)]
def penO (cs : List Int) (p g c f : Int) : Ob := .dct (kvP cs p g c f)
section
variable {cs : List Int} {p g c f : Int}
theorem get_cells : getK (kvP cs p g c f) (.inr "cells") = some (.fl (cs.map .int)) := rfl
theorem get_at : getK (kvP cs p g c f) (.inr "at") = some (.int p) := rfl
theorem get_dig : getK (kvP cs p g c f) (.inr "digits") = some (.int g) := rfl
theorem get_cnt : getK (kvP cs p g c f) (.inr "count") = some (.int c) := rfl
theorem get_fold : getK (kvP cs p g c f) (.inr "fold") = some (.int f) := rfl
theorem set_at {x : Int} : setK (kvP cs p g c f) (.inr "at") (.int x) = kvP cs x g c f := rfl
theorem set_dig {x : Int} : setK (kvP cs p g c f) (.inr "digits") (.int x) = kvP cs p x c f := rfl
theorem set_cnt {x : Int} : setK (kvP cs p g c f) (.inr "count") (.int x) = kvP cs p g x f := rfl
theorem set_fold {x : Int} : setK (kvP cs p g c f) (.inr "fold") (.int x) = kvP cs p g c x := rfl
theorem kv_len : (kvP cs p g c f).length = 5 := rfl
end
/-- a pen that can be drawn from, n draws being allowed still -/
structure PenAt (h : Hm) (k : Nat) (n : Nat) : Prop where
  ex : ∃ (cs : List Int) (p g c f : Int), h[k]? = some (penO cs p g c f) ∧ cs.length ≤ 63 ∧ 0 ≤ p ∧ 0 ≤ g ∧ 0 ≤ c ∧ c + n < 1000000000 ∧ 0 ≤ f ∧ f < 2147483648
theorem big_ok {i : Int} (h1 : -1000000000000000 < i) (h2 : i < 1000000000000000) : -big < i ∧ i < big := by
  unfold big; omega
theorem mulOk_l {i j : Int} (h1 : -1000000000000 < i) (h2 : i < 1000000000000) : mulOk i j = true := by
  have e1 : decide (-big < i) = true := decide_eq_true (by unfold big; omega)
  have e2 : decide (i < big) = true := decide_eq_true (by unfold big; omega)
  unfold mulOk
  rw [e1, e2]
  rfl
theorem mulOk_r {i j : Int} (h1 : -1000000000000 < j) (h2 : j < 1000000000000) : mulOk i j = true := by
  have e1 : decide (-big < j) = true := decide_eq_true (by unfold big; omega)
  have e2 : decide (j < big) = true := decide_eq_true (by unfold big; omega)
  unfold mulOk
  rw [e1, e2]
  simp
section
variable {h : Hm} {k : Nat} {cs : List Int} {p g c f x : Int}
theorem pen_get (lk : k < h.length) {o : Ob} : (h.set k o)[k]? = some o := by rw [List.getElem?_set_self lk]
theorem pen_ix (lk : k < h.length) {y : Str} : oIx (h.set k (penO cs p g c f)) (.loc k) (.str y) = getK (kvP cs p g c f) (.inr y) := by
  simp [oIx, dctOf, pen_get lk, penO, oDget, keyOf]
theorem pen_setD (lk : k < h.length) {y : Str} {v : D} : setD (h.set k (penO cs p g c f)) (.loc k) (.str y) v = some (h.set k (.dct (setK (kvP cs p g c f) (.inr y) v))) := by
  simp [setD, pen_get lk, penO, keyOf, kv_len, line]
theorem r_cells (lk : k < h.length) : oIx (h.set k (penO cs p g c f)) (.loc k) (.str "cells") = some (.fl (cs.map .int)) := (pen_ix lk).trans get_cells
theorem r_at (lk : k < h.length) : oIx (h.set k (penO cs p g c f)) (.loc k) (.str "at") = some (.int p) := (pen_ix lk).trans get_at
theorem r_dig (lk : k < h.length) : oIx (h.set k (penO cs p g c f)) (.loc k) (.str "digits") = some (.int g) := (pen_ix lk).trans get_dig
theorem r_cnt (lk : k < h.length) : oIx (h.set k (penO cs p g c f)) (.loc k) (.str "count") = some (.int c) := (pen_ix lk).trans get_cnt
theorem r_fold (lk : k < h.length) : oIx (h.set k (penO cs p g c f)) (.loc k) (.str "fold") = some (.int f) := (pen_ix lk).trans get_fold
theorem w_at (lk : k < h.length) : setD (h.set k (penO cs p g c f)) (.loc k) (.str "at") (.int x) = some (h.set k (penO cs x g c f)) := by rw [pen_setD lk, set_at]; rfl
theorem w_dig (lk : k < h.length) : setD (h.set k (penO cs p g c f)) (.loc k) (.str "digits") (.int x) = some (h.set k (penO cs p x c f)) := by rw [pen_setD lk, set_dig]; rfl
theorem w_cnt (lk : k < h.length) : setD (h.set k (penO cs p g c f)) (.loc k) (.str "count") (.int x) = some (h.set k (penO cs p g x f)) := by rw [pen_setD lk, set_cnt]; rfl
theorem w_fold (lk : k < h.length) : setD (h.set k (penO cs p g c f)) (.loc k) (.str "fold") (.int x) = some (h.set k (penO cs p g c x)) := by rw [pen_setD lk, set_fold]; rfl
end
theorem last_ok (cq ca ex dv : Int) (C : 0 ≤ cq ∧ cq < 1000000 ∧ 0 ≤ ca ∧ ca < 1000000 ∧ 0 ≤ ex ∧ ex < 1000 ∧ 0 < dv ∧ dv < 1000000) {h : Hm} {k : Nat} (lk : k < h.length) {cs : List Int} {p g c f many : Int} (y2 : Option D) (g0 : 0 ≤ g) (c0 : 0 ≤ c) (c1 : c < 1000000000) (f0 : 0 ≤ f) (f1 : f < 2147483648)
    (m0 : 0 < many) (m1 : many < 1073741824) : ∃ r g' : Int, bLast cq ca ex dv [some (.loc k), some (.int many), y2, none, none] (h.set k (penO cs p g c f)) = .rt (.int r) (h.set k (penO cs p g' c f)) ∧ 0 ≤ r ∧ r < many ∧ 0 ≤ g' := by
  obtain ⟨q5, q6, q7, q8, q9, q10, q11, q12⟩ := C
  by_cases hg : 0 < g
  · refine ⟨g % many, g / many, ?_, Int.emod_nonneg _ (by omega), Int.emod_lt_of_pos _ m0, Int.ediv_nonneg g0 (by omega)⟩
    simp [bLast, sStore, bInt, r_dig lk, w_dig lk, hg, m0, m1, fnP, sSeq, sAsg, sRet, sIf, sPass, eV, Rs.out, Rs.bind, outO, gN, Y.e2, eC, aN, aC, oMod, oGt, oDiv, ofO, Y.tB, eB]
  · have hg' : g = 0 := by omega
    subst hg'
    have b0 : 0 ≤ c * cq := Int.mul_nonneg c0 q5
    have b1 : c * cq ≤ 1000000000 * 1000000 := by
      have := Int.mul_le_mul (a := c) (b := cq) (c := 1000000000) (d := 1000000) (by omega) (by omega) q5 (by omega)
      exact this
    have a1 : mulOk c cq = true := mulOk_l (by omega) (by omega)
    have a2 : 0 ≤ ex ∧ ex ≤ 1000000 ∧ -big < f + c * cq + ca ∧ f + c * cq + ca < big := ⟨q9, by omega, by unfold big; omega, by unfold big; omega⟩
    have a3 : 0 < dv ∧ dv < 1073741824 := ⟨q11, by omega⟩
    refine ⟨_, 0, ?_, Int.emod_nonneg ((f + c * cq + ca) ^ ex.toNat % 2305843009213693951 / dv) (Int.ne_of_gt m0), Int.emod_lt_of_pos _ m0, Int.le_refl _⟩
    simp [bLast, bInt, r_dig lk, r_fold lk, r_cnt lk, a1, a2, a3, m0, fnP, sSeq, sAsg, sRet, sIf, sPass, eV, Rs.out, Rs.bind, outO, gN, Y.e2, eC, aN, aC, oMod, oMul, oAdd, oPow, oGt, oDiv, ofO, Y.tB, eB]
theorem ix_ints {cs : List Int} {p x : Int} {h : Hm} (p0 : 0 ≤ p) (hx : cs[p.toNat]? = some x) : oIx h (.fl (cs.map .int)) (.int p) = some (.int x) := by
  have lp : p.toNat < cs.length := (List.getElem?_eq_some_iff.mp hx).1
  simp only [oIx, dctOf, ixD, seqOf, lstOf, Option.bind_some]
  unfold L2.atI L2.ixN
  rw [if_pos p0, if_pos (by rw [List.length_map]; omega), Option.bind_some, List.getElem?_map, hx]
  rfl
theorem draw (fq fm cq ca ex dv : Int) (C : 0 ≤ fq ∧ fq < 1000000000 ∧ 0 < fm ∧ fm ≤ 2147483648 ∧ 0 ≤ cq ∧ cq < 1000000 ∧ 0 ≤ ca ∧ ca < 1000000 ∧ 0 ≤ ex ∧ ex < 1000 ∧ 0 < dv ∧ dv < 1000000)
    {h : Hm} {k n : Nat} (hp : PenAt h k (n + 1)) {many : Int} (m0 : 0 < many) (m1 : many < 1073741824) :
    ∃ (r : Int) (o : Ob), dDraw fq fm cq ca ex dv [.loc k, .int many] h = .ok (.int r) (h.set k o) ∧ 0 ≤ r ∧ r < many ∧ PenAt (h.set k o) k n := by
  obtain ⟨cs, p, g, c, f, hk, hl, p0, g0, c0, c1, f0, f1⟩ := hp.ex
  have lk : k < h.length := (List.getElem?_eq_some_iff.mp hk).1
  obtain ⟨q1, q2, q3, q4, C2⟩ := C
  have eh : h = h.set k (penO cs p g c f) := by
    apply List.ext_getElem?
    intro j
    by_cases hj : j = k
    · subst hj; rw [pen_get lk, hk]
    · rw [List.getElem?_set_ne (Ne.symm hj)]
  have done : ∀ (y2 : Option D) (p' g' f' : Int), 0 ≤ p' → 0 ≤ g' → 0 ≤ f' → f' < 2147483648 → ∀ o : Out, o = bLast cq ca ex dv [some (.loc k), some (.int many), y2, none, none] (h.set k (penO cs p' g' (c + 1) f')) →
      ∃ (r : Int) (ob : Ob), (match o with | .rt d h' => finP h d h' | .nx _ h' => finP h .non h' | .ex e _ h' => .ex e h' | _ => .bad) = Rs.ok (.int r) (h.set k ob) ∧ 0 ≤ r ∧ r < many ∧ PenAt (h.set k ob) k n := by
    intro y2 p' g' f' z1 z2 z3 z4 o eo
    obtain ⟨r, g2, e, r0, r1, g3⟩ := last_ok cq ca ex dv C2 lk (cs := cs) (p := p') (g := g') (c := c + 1) (f := f') y2 z2 (by omega) (by omega) z3 z4 m0 m1
    rw [e] at eo
    subst eo
    refine ⟨r, penO cs p' g2 (c + 1) f', ?_, r0, r1, ⟨cs, p', g2, c + 1, f', pen_get lk, hl, z1, g3, by omega, by omega, z3, z4⟩⟩
    simp [finP]
  show ∃ (r : Int) (ob : Ob), (match bDraw fq fm cq ca ex dv [some (.loc k), some (.int many), none, none, none] h with | .rt d h' => finP h d h' | .nx _ h' => finP h .non h' | .ex e _ h' => .ex e h' | _ => .bad) = Rs.ok (.int r) (h.set k ob) ∧ 0 ≤ r ∧ r < many ∧ PenAt (h.set k ob) k n
  by_cases hb : g = 0 ∧ p < cs.length
  · obtain ⟨hg, hp1⟩ := hb
    subst hg
    obtain ⟨x, hx⟩ : ∃ x, cs[p.toNat]? = some x := ⟨cs[p.toNat]'(by omega), List.getElem?_eq_getElem (by omega)⟩
    have ix : ∀ h, oIx h (.fl (cs.map .int)) (.int p) = some (.int x) := fun h => ix_ints p0 hx
    have e10 : (10 : Int) ^ (18 : Int).toNat = 1000000000000000000 := by decide
    have a1 : mulOk f fq = true := mulOk_l (by omega) (by omega)
    by_cases hx1 : 1000000000000000000 ≤ x
    · refine done (some (.int x)) (p + 1) (x - 1000000000000000000) f (by omega) (by omega) f0 f1 _ ?_
      rw [eh]
      simp [bDraw, sStore, r_dig lk, w_dig lk, r_cnt lk, w_cnt lk, r_at lk, w_at lk, r_cells lk, hp1, ix, hx1, big, fnP, sSeq, sAsg, sRet, sIf, sPass, eV, Rs.out, Rs.bind, outO, gN, Y.e2, eC, aN, aC, oEq, eqD, oAdd, oSub, oLt, oGe, oPow, bLen, seqOf, lstOf, Y.tAnd, ofO, Y.tB, eB]
    · refine done (some (.int x)) (p + 1) 0 ((f * fq + x) % fm) (by omega) (by omega) (Int.emod_nonneg _ (by omega)) (Int.lt_of_lt_of_le (Int.emod_lt_of_pos _ q3) q4) _ ?_
      rw [eh]
      simp [bDraw, sStore, bInt, r_dig lk, w_fold lk, r_fold lk, r_cnt lk, w_cnt lk, r_at lk, w_at lk, r_cells lk, hp1, ix, hx1, a1, q3, big, fnP, sSeq, sAsg, sRet, sIf, sPass, eV, Rs.out, Rs.bind, outO, gN, Y.e2, eC, aN, aC, oEq, eqD, oAdd, oMul, oMod, oSub, oLt, oGe, oPow, bLen, seqOf, lstOf, Y.tAnd, ofO, Y.tB, eB]
  · refine done none p g f p0 g0 f0 f1 _ ?_
    rw [eh]
    by_cases hg : g = 0
    · have hp1 : ¬ p < cs.length := fun z => hb ⟨hg, z⟩
      simp [bDraw, sStore, r_dig lk, r_cnt lk, w_cnt lk, r_at lk, r_cells lk, hp1, hg, fnP, sSeq, sAsg, sRet, sIf, sPass, eV, Rs.out, Rs.bind, outO, gN, Y.e2, eC, aN, aC, oEq, eqD, oAdd, oSub, oLt, bLen, seqOf, lstOf, Y.tAnd, ofO, Y.tB, eB]
    · simp [bDraw, sStore, r_dig lk, r_cnt lk, w_cnt lk, hg, fnP, sSeq, sAsg, sRet, sIf, sPass, eV, Rs.out, Rs.bind, outO, gN, Y.e2, eC, aN, aC, oEq, eqD, oAdd, Y.tAnd, ofO, Y.tB, eB]
/-! ### the pen made -/
theorem pen_loop (q m : Int) (C : 0 ≤ q ∧ q < 1000000000 ∧ 0 < m ∧ m ≤ 2147483648) (s0 : Option D) (h : Hm) : ∀ (ns : List Int) (f : Int) (y : Option D), 0 ≤ f → f < 2147483648 →
    ∃ (f' : Int) (y' : Option D), forL (gN 2) (sAsg (gN 1) (Y.e2 oMod (eB bInt (aC (Y.e2 oAdd (Y.e2 oMul (eV 1) (eC (.int q))) (eV 2)) (aN))) (eC (.int m)))) (ns.map .int) [s0, some (.int f), y] h = .nx [s0, some (.int f'), y'] h ∧ 0 ≤ f' ∧ f' < 2147483648
  | [], f, y, f0, f1 => ⟨f, y, rfl, f0, f1⟩
  | n :: ns, f, y, f0, f1 => by
    obtain ⟨q1, q2, q3, q4⟩ := C
    have a1 : mulOk f q = true := mulOk_l (by omega) (by omega)
    obtain ⟨f', y', e, z0, z1⟩ := pen_loop q m ⟨q1, q2, q3, q4⟩ s0 h ns ((f * q + n) % m) (some (.int n)) (Int.emod_nonneg _ (by omega)) (Int.lt_of_lt_of_le (Int.emod_lt_of_pos _ q3) q4)
    refine ⟨f', y', ?_, z0, z1⟩
    rw [← e]
    simp [forL, bInt, a1, q3, sAsg, eV, Rs.out, Rs.bind, outO, gN, Y.e2, eC, aN, aC, oAdd, oMul, oMod, ofO, eB]
theorem pen_made (i0 q m : Int) (C : 0 ≤ i0 ∧ i0 < 2147483648 ∧ 0 ≤ q ∧ q < 1000000000 ∧ 0 < m ∧ m ≤ 2147483648) (ns : List Int) (hl : ns.length ≤ 63) (h : Hm) :
    ∃ o : Ob, dPen i0 q m [.sq (ns.map .int)] h = .ok (.loc h.length) (h ++ [o]) ∧ PenAt (h ++ [o]) h.length 999999999 := by
  obtain ⟨c1, c2, C⟩ := C
  obtain ⟨f, y, e, f0, f1⟩ := pen_loop q m C (some (.sq (ns.map .int))) h ns i0 none c1 c2
  refine ⟨penO ns 0 0 0 f, ?_, ⟨ns, 0, 0, 0, f, by simp, hl, by omega, by omega, by omega, by omega, f0, f1⟩⟩
  simp [dPen, bPen, fnK, startD, sSeq, sFor, iA, sAsg, eV, Rs.out, Rs.bind, outO, gN, eC, e, sRet, eDct, pC, pN, eFrz, lB, mList, seqOf, lstOf, aC, aN, ofO, kvsOf, keyOf]
  rfl
/-- what is wanted of a draw function -/
def Draws (F : Fn) : Prop := ∀ {h : Hm} {k n : Nat}, PenAt h k (n + 1) → ∀ {many : Int}, 0 < many → many < 1073741824 → ∃ (r : Int) (o : Ob), F [.loc k, .int many] h = .ok (.int r) (h.set k o) ∧ 0 ≤ r ∧ r < many ∧ PenAt (h.set k o) k n
def bPick (F : Fn) : Sv := sRet (Y.e2 oIx (eV 1) (eCall F (aC (eV 0) (aC (eB bLen (aC (eV 1) (aN))) (aN)))))
def dPick (F : Fn) : Fn := fnP 2 (bPick F)
theorem pick_at {xs : List D} {r : Int} (r0 : 0 ≤ r) (r1 : r < xs.length) : ∃ x, L2.atI xs r = some x ∧ xs[r.toNat]? = some x ∧ x ∈ xs := by
  have hl : r.toNat < xs.length := by omega
  refine ⟨xs[r.toNat], ?_, List.getElem?_eq_getElem hl, List.getElem_mem hl⟩
  unfold L2.atI L2.ixN
  rw [if_pos r0, if_pos r1, Option.bind_some]
  exact List.getElem?_eq_getElem hl
theorem pick {F : Fn} (hF : Draws F) {h : Hm} {k n : Nat} (hp : PenAt h k (n + 1)) {d : D} {xs : List D} (hd : d = .fl xs ∨ d = .tup xs) (h0 : 0 < xs.length) (h1 : xs.length < 1073741824) :
    ∃ (x : D) (o : Ob), dPick F [.loc k, d] h = .ok x (h.set k o) ∧ x ∈ xs ∧ PenAt (h.set k o) k n := by
  obtain ⟨r, o, e, r0, r1, hq⟩ := hF hp (many := xs.length) (by omega) (by omega)
  obtain ⟨x, e2, _, hx⟩ := pick_at r0 r1
  refine ⟨x, o, ?_, hx, hq⟩
  rcases hd with rfl | rfl <;> simp [dPick, bPick, fnP, startD, sRet, Y.e2, eV, eCall, aC, aN, eB, bLen, seqOf, lstOf, e, e2, oIx, dctOf, ixD, Rs.bind, ofO, Rs.out, finP]
theorem ll (n : Nat) (h : n ≤ 100000) : (n ≤ line) = True := by
  have : n ≤ line := Nat.le_trans h (by decide)
  simp [this]
/-- a loop that keeps I -/
theorem forL_nx {g : Gv} {b : Sv} (I : Nat → Sl → Hm → Prop) : ∀ (ds : List D) (i : Nat) (σ : Sl) (h : Hm), I (i + ds.length) σ h →
    (∀ (d : D) (j : Nat) (σ : Sl) (h : Hm), d ∈ ds → I (j + 1) σ h → ∃ σ1, g d σ = some σ1 ∧ ∃ σ2 h2, (b σ1 h = .nx σ2 h2 ∨ b σ1 h = .ct σ2 h2) ∧ I j σ2 h2) → ∃ σ' h', forL g b ds σ h = .nx σ' h' ∧ I i σ' h'
  | [], i, σ, h, hi, _ => ⟨σ, h, rfl, hi⟩
  | d :: ds, i, σ, h, hi, hs => by
    obtain ⟨σ1, e1, σ2, h2, e2, i2⟩ := hs d (i + ds.length) σ h List.mem_cons_self hi
    obtain ⟨σ', h', e3, i3⟩ := forL_nx I ds i σ2 h2 i2 fun d j σ h m => hs d j σ h (List.mem_cons_of_mem _ m)
    refine ⟨σ', h', ?_, i3⟩
    rcases e2 with e2 | e2 <;> simp [forL, e1, e2, e3]
/-- one pen, alone in the heap -/
theorem draws1 {F : Fn} (hF : Draws F) {o : Ob} {n : Nat} (hp : PenAt [o] 0 (n + 1)) {many : Int} (m0 : 0 < many) (m1 : many < 1073741824) : ∃ (r : Int) (o' : Ob), F [.loc 0, .int many] [o] = .ok (.int r) [o'] ∧ 0 ≤ r ∧ r < many ∧ PenAt [o'] 0 n := hF hp m0 m1
theorem pick1 {F : Fn} (hF : Draws F) {o : Ob} {n : Nat} (hp : PenAt [o] 0 (n + 1)) {d : D} {xs : List D} (hd : d = .fl xs ∨ d = .tup xs) (h0 : 0 < xs.length) (h1 : xs.length < 1073741824) : ∃ (x : D) (o' : Ob), dPick F [.loc 0, d] [o] = .ok x [o'] ∧ x ∈ xs ∧ PenAt [o'] 0 n := pick hF hp hd h0 h1
theorem PenAt.mono {h : Hm} {k m n : Nat} (p : PenAt h k m) (l : n ≤ m) : PenAt h k n := by
  obtain ⟨cs, q, g, c, f, hk, hl, p0, g0, c0, c1, f0, f1⟩ := p.ex
  exact ⟨cs, q, g, c, f, hk, hl, p0, g0, c0, by omega, f0, f1⟩
theorem while_fuel (c : Tv) (b : Sv) : ∃ N : Nat, 1000000 < N ∧ sWhile c b = whileL c b N := ⟨1000000000000, by decide, rfl⟩
end Y
end

section
set_option Elab.async false
set_option linter.all false
set_option maxRecDepth 100000
set_option maxHeartbeats 2000000
/-! YN: sorted; lists times a number. -/
namespace Y
open PySem PySem.Spec PyProof.Rows L2

section
variable {X : Cx} {k : Nat} {β : Type}
/-- sorted(xs), by what the items stand for -/
theorem sort_gen (c0 : Cs k X) {enc : β → PyData} {toD : β → D} (hpy : ∀ h b, py h (toD b) = some (enc b)) {bs : List β} (hal : PySem.W.AllAlike (bs.map enc)) (hk : PySem.W.Sortable (bs.map enc)) (hd : ∀ b ∈ bs, (enc b).depth ≤ 64)
    {φ : List Addr} {H : Hp} {a : Addr} {vs : List V} (hq : SqL X.K H a vs) (rr : RepL X.K φ H (bs.map toD) vs) :
    CallR X (.builtin "sorted") (fun us H' Q => us = [.ref a] ∧ H' = H ∧ ∀ p vs', H p = none → RepL X.K φ H ((bs.mergeSort (PySem.W.dataLe false enc)).map toD) vs' → Q (.ref p) (upd H p (.lst vs'))) := by
  intro pins s σ H1 xs us Q I r1 hh
  obtain ⟨rfl, rfl, q⟩ := hh
  rw [Vals.ref1 r1]
  obtain ⟨its, rv, hl, hz⟩ := I.list hq
  have each : ∀ {vs : List V} {its : List Value} {bs : List β}, Vals vs its → RepL X.K φ H1 (bs.map toD) vs → PySem.W.EachIs (fun u b => ∃ v, RelV v u ∧ Rep X.K φ H1 (toD b) v) its bs := by
    intro vs its bs r
    induction r generalizing bs with
    | nil =>
      intro q
      cases bs with
      | nil => exact .nil
      | cons b bs => cases q
    | cons h1 _ ih =>
      intro q
      cases bs with
      | nil => cases q
      | cons b bs =>
        cases q with
        | cons q1 q2 => exact .cons ⟨_, h1, q1⟩ (ih q2)
  have e := each rv rr
  have er : PySem.W.EachIs (fun u b => ∃ as, Reads s.heap u (enc b) as) its bs := e.mono fun u b ⟨v, r, q⟩ => Dp.reads I _ _ _ (Rep.dp (toD b) v (enc b) (hpy [] b) q) r
  have hlen : bs.length ≤ sizeLine := by
    have := rr.length
    rw [List.length_map] at this
    omega
  have hu := c0.room.un
  refine PySem.W.sorted_data hl.isList e er hal hk hlen (fun b hb => by have := hd b hb; omega) fun out ho eo => ?_
  obtain ⟨ep, he'⟩ := PyProof.Rows.sortedAll_at s.heap its out.toArray
  have back : ∀ {out : List Value} {bs : List β}, PySem.W.EachIs (fun u b => ∃ v, RelV v u ∧ Rep X.K φ H1 (toD b) v) out bs → ∃ vs', Vals vs' out ∧ RepL X.K φ H1 (bs.map toD) vs' := by
    intro out bs r
    induction r with
    | nil => exact ⟨[], .nil, .nil⟩
    | cons h1 _ ih =>
      obtain ⟨v, r1, r2⟩ := h1
      obtain ⟨vs', r3, r4⟩ := ih
      exact ⟨v :: vs', .cons r1 r3, .cons r2 r4⟩
  obtain ⟨vs', v1, v2⟩ := back eo
  have hl2 : vs'.length ≤ sizeLine := by rw [v1.length, ho]; exact hlen
  exact ⟨.ref _, upd H1 (s.heap.objs.size + 1) (.lst vs'), I.laid (t' := s.toks) (fun _ _ => PyProof.Rows.sortedAll_old) (Nat.le_succ _) ⟨hl2, out, ep, v1, by simpa using he'⟩, rfl, q _ _ (I.hok.fresh (Nat.le_succ _)) v2⟩
end

/-! ### by kinds -/
def insB {α : Type} (le : α → α → Bool) (x : α) : List α → List α
  | [] => [x]
  | y :: ys => if le x y then x :: y :: ys else y :: insB le x ys
/-- sorting that the kernel can walk through -/
def isort {α : Type} (le : α → α → Bool) : List α → List α
  | [] => []
  | x :: xs => insB le x (isort le xs)
theorem insB_perm {α : Type} (le : α → α → Bool) (x : α) : ∀ l, (insB le x l).Perm (x :: l)
  | [] => .refl _
  | y :: ys => by
    unfold insB
    split
    · exact .refl _
    · exact ((insB_perm le x ys).cons y).trans (.swap x y ys)
theorem isort_perm {α : Type} (le : α → α → Bool) : ∀ l, (isort le l).Perm l
  | [] => .refl _
  | x :: xs => (insB_perm le x _).trans ((isort_perm le xs).cons x)
section
variable {α : Type} {le : α → α → Bool} (tr : ∀ a b c, le a b = true → le b c = true → le a c = true) (tt : ∀ a b, (le a b || le b a) = true)
include tr tt
theorem insB_sorted (x : α) : ∀ l, l.Pairwise (fun a b => le a b = true) → (insB le x l).Pairwise (fun a b => le a b = true)
  | [], _ => by simp [insB]
  | y :: ys, h => by
    have h' := List.pairwise_cons.mp h
    unfold insB
    split
    · rename_i c
      refine List.pairwise_cons.mpr ⟨fun z m => ?_, h⟩
      rcases List.mem_cons.mp m with rfl | m
      · exact c
      · exact tr _ _ _ c (h'.1 z m)
    · rename_i c
      refine List.pairwise_cons.mpr ⟨fun z m => ?_, insB_sorted x ys h'.2⟩
      rcases List.mem_cons.mp ((insB_perm le x ys).mem_iff.mp m) with rfl | m
      · have := tt z y
        simp [c] at this
        exact this
      · exact h'.1 z m
theorem isort_sorted : ∀ l, (isort le l).Pairwise (fun a b => le a b = true)
  | [] => List.Pairwise.nil
  | x :: xs => insB_sorted tr tt x _ (isort_sorted xs)
theorem isort_eq (an : ∀ a b, le a b = true → le b a = true → a = b) (l : List α) : l.mergeSort le = isort le l :=
  ((List.mergeSort_perm l le).trans (isort_perm le l).symm).eq_of_pairwise (fun a b _ _ x y => an a b x y) (List.pairwise_mergeSort tr tt l) (isort_sorted tr tt l)
end
def intsL (ns : List Int) : List Int := isort (fun a b => decide (a ≤ b)) ns
def rowsL (ns : List (List Int)) : List (List Int) := isort (fun a b => decide (a ≤ b)) ns
theorem intsL_eq (ns : List Int) : ns.mergeSort (fun a b => decide (a ≤ b)) = intsL ns := isort_eq (fun a b c h1 h2 => by simp at *; omega) (fun a b => by simp; omega) (fun a b h1 h2 => by simp at *; omega) ns
theorem rowsL_eq (ns : List (List Int)) : ns.mergeSort (fun a b => decide (a ≤ b)) = rowsL ns := isort_eq (fun a b c h1 h2 => by simp at *; exact List.le_trans h1 h2) (fun a b => by simp; exact List.le_total a b) (fun a b h1 h2 => by simp at *; exact List.le_antisymm h1 h2) ns
def rowD (r : List Int) : D := .tup (r.map .int)
def rowsOf : List D → Option (List (List Int))
  | [] => some []
  | .tup xs :: r => match intsOf xs, rowsOf r with
    | some a, some b => if a.isEmpty then none else some (a :: b)
    | _, _ => none
  | _ => none
def sortD (ds : List D) : Option (List D) := match intsOf ds with
  | some ns => some ((intsL ns).map .int)
  | none => match rowsOf ds with
    | some rs => some ((rowsL rs).map rowD)
    | none => none
/-- sorted(xs), xs a list of ints, of rows of ints -/
def mSorted (h : Hm) : List D → Option (List D)
  | [d] => (lstOf h d).bind sortD
  | _ => none
theorem intsOf_map : ∀ {ds : List D} {ns : List Int}, intsOf ds = some ns → ds = ns.map .int
  | [], ns, e => by simp [intsOf] at e; subst e; rfl
  | d :: ds, ns, e => by
    cases d <;> simp [intsOf] at e
    obtain ⟨a, h1, rfl⟩ := e
    simp [intsOf_map h1]
theorem rowsOf_map : ∀ {ds : List D} {rs : List (List Int)}, rowsOf ds = some rs → ds = rs.map rowD ∧ ∀ r ∈ rs, r ≠ []
  | [], ns, e => by simp [rowsOf] at e; subst e; exact ⟨rfl, fun r m => by simp at m⟩
  | d :: ds, ns, e => by
    cases d <;> simp only [rowsOf] at e <;> try (cases e; done)
    rename_i xs
    cases h1 : intsOf xs with
    | none => rw [h1] at e; cases e
    | some a =>
      cases h2 : rowsOf ds with
      | none => rw [h1, h2] at e; cases e
      | some b =>
        rw [h1, h2] at e
        simp only at e
        split at e
        · cases e
        · rename_i ha
          cases e
          obtain ⟨q1, q2⟩ := rowsOf_map h2
          refine ⟨by simp [rowD, ← q1, intsOf_map h1], fun r m => ?_⟩
          rcases List.mem_cons.mp m with rfl | m
          · simpa using ha
          · exact q2 r m
theorem py_ints (h : Hm) : ∀ ns : List Int, pyL h (ns.map .int) = some (ns.map .int)
  | [] => rfl
  | n :: ns => by simp [pyL, py, py_ints h ns]
theorem py_row (h : Hm) (r : List Int) : py h (rowD r) = some (.tuple (r.map .int)) := by simp [rowD, py, py_ints]
theorem dataLe_tups (x : List Int → List Int) : PySem.W.dataLe false (fun b => PyData.tuple ((x b).map .int)) = fun p q => decide (x p ≤ x q) := by
  funext p q
  show (!PySem.W.dataLt (.tuple ((x q).map .int)) (.tuple ((x p).map .int))) = _
  rw [PySem.W.dataLt_tuple]
  show (!PySem.W.rowLt ((x q).map .int) ((x p).map .int)) = _
  rw [PySem.W.dataLt_ints]
  by_cases h : x q < x p
  · have h' : ¬ x p ≤ x q := fun r => List.not_lt.mpr r h
    simp [h, h']
  · have h' : x p ≤ x q := List.not_lt.mp h
    simp [h, h']
section
variable {X : Cx} {k : Nat}
theorem c_sorted (c0 : Cs k X) : CaL X (.builtin "sorted") mSorted := caL fun Q φ H h xs vs z R r e q => by
  rcases xs with _ | ⟨d, _ | _⟩ <;> simp only [mSorted] at e <;> try (cases e; done)
  obtain ⟨v, rfl, rd⟩ := r.one
  obtain ⟨ys, e1, e2⟩ := Option.bind_eq_some_iff.mp e
  obtain ⟨a, us, rfl, hq, rr⟩ := lst_at R rd e1
  have fin : ∀ p vs', H p = none → RepL X.K φ H z vs' → Q (.ref p) (upd H p (.lst vs')) := fun p vs' hp hr => q φ _ _ (Lat.new hp) (R.new hp) (fresh_new R hp hr)
  unfold sortD at e2
  cases h1 : intsOf ys with
  | some ns =>
    rw [h1] at e2
    cases e2
    have em := intsOf_map h1
    subst em
    have g := sort_gen c0 (enc := PyData.int) (toD := D.int) (fun _ _ => rfl) (bs := ns) (PySem.W.AllAlike.of fun _ _ => rfl) (PySem.W.Sortable.others fun _ => ⟨by simp, by simp⟩) (fun _ _ => by simp [PyData.depth]) hq rr
    rw [PySem.W.dataLe_int (fun b : Int => b), intsL_eq] at g
    exact ⟨_, g, rfl, rfl, fin⟩
  | none =>
    rw [h1] at e2
    cases h2 : rowsOf ys with
    | none => rw [h2] at e2; cases e2
    | some rs =>
      rw [h2] at e2
      cases e2
      obtain ⟨em, hne⟩ := rowsOf_map h2
      subst em
      have g := sort_gen c0 (enc := fun r : List Int => PyData.tuple (r.map .int)) (toD := rowD) (fun h b => py_row h b) (bs := rs)
        (PySem.W.AllAlike.of fun b b' => by simp only [PySem.W.alike]; exact PySem.W.alike_ints b b')
        (.inl fun d hd => by
          obtain ⟨b, hb, rfl⟩ := List.mem_map.mp hd
          cases b with
          | nil => exact absurd rfl (hne _ hb)
          | cons x r => exact ⟨_, _, rfl⟩) (fun b _ => by simp [PyData.depth, PySem.W.depth_ints]) hq rr
      rw [dataLe_tups (fun b => b), rowsL_eq] at g
      exact ⟨_, g, rfl, rfl, fin⟩
end
/-! ### [..] * n -/
def lMul (f : Lv) (g : Ev) : Lv := fun σ h => (f σ h).bind fun xs h1 => (g σ h1).bind fun n h2 => match n with
  | .int k => if -4611686018427387904 ≤ k ∧ k < 4611686018427387904 ∧ xs.length * k.toNat ≤ line then .ok (List.replicate k.toNat xs).flatten h2 else .bad
  | _ => .bad
theorem RepL.rep {K : PySem.W.Frag} {φ : List Addr} {H : Hp} {ds : List D} {vs : List V} (r : RepL K φ H ds vs) : ∀ n : Nat, RepL K φ H (List.replicate n ds).flatten (List.replicate n vs).flatten
  | 0 => .nil
  | n + 1 => by
    simp only [List.replicate_succ, List.flatten_cons]
    exact r.append (RepL.rep r n)
section
variable {X : Cx} {cl : Nat → Addr} {W : WX} {a b : Expr} {f : Lv} {g : Ev} {pos : Pos}
theorem l_mul (ha : SL X cl W a f) (hb : SE X cl W b g) : SL X cl W (.BinOp a .Mult b pos) (lMul f g) := by
  refine ⟨fun pins s σ H Q I p => ?_⟩
  obtain ⟨φ, st, h0, S, R0, P⟩ := p
  refine wpAny_BinOp (bin ha hb I (R := fun v u H2 => rRep v u H2 Q) ?_ fun v u s2 x y H2 I2 rx ry q => op_rep pins s2 σ H2 x y v u Q I2 rx ry q)
  refine ⟨φ, st, h0, S, R0, P.seq fun x h1 φ1 H1 v l1 r1 q1 P1 => ⟨φ1, st, h1, S.mono l1, r1, P1.seq fun y h2 φ2 H2 u l2 r2 q2 P2 => ?_⟩⟩
  obtain ⟨p, vs, rfl, n0, nn, ea, rr⟩ := q1
  cases q2 <;> simp only at P2 <;> try (exact P2.elim)
  rename_i k
  split at P2
  · rename_i hc
    refine ⟨p, k, vs, rfl, rfl, l2.keep p _ ea nn, by omega, by omega, by rw [← rr.length, ← line_eq]; exact hc.2.2, fun p' hp => ?_⟩
    exact P2 φ2 _ _ (Lat.new hp) (r2.new hp) (fresh_new r2 hp (RepL.mono l2.pre l2.per _ _ (rr.rep _)))
  · exact P2.elim
end
end Y
end

section
set_option Elab.async false
set_option linter.all false
set_option maxRecDepth 100000
set_option maxHeartbeats 2000000
/-! YP: exceptions: raise, try. -/
namespace Y
open PySem PySem.Spec PyProof.Rows L2

/-- raise C(..), C of the program, its __init__ keeps the fields fs -/
def sRaise (c : Str) (fs : List Str) (a : Av) : Sv := fun σ h => (a σ h).out σ fun xs h1 => if xs.length = fs.length ∧ fs.length ≤ 10 then .ex ⟨c, (fs.zip xs).reverse⟩ σ h1 else .bad
/-- what __init__ does -/
def spI (C : Addr) (fs : List Str) : Sp := fun vs H Q _ => ∃ (a : Addr) (ws : List V), vs = .ref a :: ws ∧ ws.length = fs.length ∧ H a = some (exo a C none) ∧
  ∀ dx H2, H dx = none → dx ≠ a → H2 a = some (exo a C (some dx)) → H2 dx = some (exd dx (fs.zip ws).reverse) → (∀ b, b ≠ a → b ≠ dx → H2 b = H b) → Q .non H2
/-- the class and its __init__ -/
structure Exc (P : Program) (w : World) (K : PySem.W.Frag) (mg : Str → Option Value) (base : Heap) (c : Str) (fs : List Str) : Prop where
  ex : ∃ (C fI : Addr) (fd : FuncData), mg c = some (.ref C) ∧ PySem.W.nsIn K mainGlobals c = some (some (.ref C)) ∧ OexC K C ∧ PySem.W.findIn K (.ref C) "__init__" = some (some (.ref fI)) ∧ PySem.W.typeIn K (.ref fI) = some (.type "function") ∧
    FnOk P w K mg base CX0 1 fI fd ("self" :: fs) (spI C fs) ∧ Binds K fd ("self" :: fs) []
section
variable {X : Cx} {cl : Nat → Addr} {W : WX} {e : Expr} {es : List Expr} {fa : Av} {pos p pos2 : Pos} {k : Nat} {c : Str} {fs : List Str}
theorem repF_zip {K : PySem.W.Frag} {φ : List Addr} {H : Hp} : ∀ {fs : List Str} {xs : List D} {vs : List V}, RepL K φ H xs vs → RepF K φ H (fs.zip xs) (fs.zip vs)
  | [], _, _, _ => by simp only [List.zip_nil_left]; exact .nil
  | f :: fs, [], _, r => by cases r; simp only [List.zip_nil_right]; exact .nil
  | f :: fs, x :: xs, _, r => by
    cases r with
    | cons h r => exact .cons ⟨rfl, h⟩ (repF_zip r)
theorem paired_app {α β : Type} {R : α → β → Prop} {as as' : List α} {bs bs' : List β} (h : Paired R as bs) (h' : Paired R as' bs') : Paired R (as ++ as') (bs ++ bs') := by
  induction h with
  | nil => exact h'
  | cons q _ ih => exact .cons q ih
theorem paired_rev {α β : Type} {R : α → β → Prop} {as : List α} {bs : List β} (h : Paired R as bs) : Paired R as.reverse bs.reverse := by
  induction h with
  | nil => exact .nil
  | cons q _ ih => rw [List.reverse_cons, List.reverse_cons]; exact paired_app ih (.cons q .nil)
theorem s_raise (E : Exc X.prog X.w X.K X.mg X.base c fs) (c0 : Cs k X) (hk : 2 ≤ k) (tk : Takes X W) (ha : SA X cl W (e :: es) fa) (hg : Gl X c := by rfl) (hdb : (c == ("__debug__" : Str)) = false := by decide)
    (he : starEach (e :: es) X.env = (false, eval e X.env) :: starEach es X.env := by rfl) (hpl : (backTo pos (starEach es X.env)).any (·.1) = false := by rfl) : SS X cl W (.Raise (some (.Call (.Name c p) (e :: es) [] pos)) none pos2) (sRaise c fs fa) := by
  obtain ⟨C, fI, fd, gm, hns, T, iC, tI, F, hb⟩ := E.ex
  refine PS.of (ps_raise c0.calm tk (pmk_oex T iC tI F (c0.room.mono hk) hb .nil (pass0 : Passes CX0 X _) hg gm ha hdb he hpl)) fun D σ H p => ?_
  obtain ⟨φ, st, h0, S, R0, P⟩ := p
  refine ⟨φ, st, h0, S, R0, ?_⟩
  simp only [sRaise] at P
  cases e1 : fa st h0 with
  | bad => simp only [e1, Rs.out] at P; exact P
  | ex ex1 h1 =>
    simp only [e1, Rs.out] at P
    exact fun φ' H' c d l r er => P φ' H' c d σ l r (S.mono l) er
  | ok xs h1 =>
    simp only [e1, Rs.out] at P
    intro φ1 H1 vs l1 r1 q1
    split at P
    · rename_i hl
      obtain ⟨hl, h10⟩ := hl
      refine ⟨by rw [← q1.length, hl]; omega, fun a ha => ⟨a, vs, by rw [List.append_nil], by rw [← q1.length, hl], upd_same, fun dx H2 n1 n2 e2 e3 e4 => ?_⟩⟩
      refine ⟨rfl, dx, _, e2, e3, ?_, ?_⟩
      · rw [upd_ne n2] at n1; exact n1
      · rw [upd_ne n2] at n1
        have eH : upd (del H2 a) dx (.xd (fs.zip vs).reverse) = upd H1 dx (.xd (fs.zip vs).reverse) := by
          funext b
          by_cases hb : b = dx
          · subst hb; rw [upd_same, upd_same]
          · rw [upd_ne hb, upd_ne hb]
            by_cases hba : b = a
            · subst hba; rw [del_same, ha]
            · rw [del_ne hba, e4 b hba hb, upd_ne hba]
        rw [eH]
        exact P φ1 _ _ _ σ (l1.trans (Lat.new n1)) (r1.new n1) (S.mono (l1.trans (Lat.new n1))) ⟨⟨C, rfl, hns⟩, .inr ⟨dx, _, rfl, upd_same, paired_rev (repF_zip (RepL.mono (List.prefix_refl _) (Per.new n1) _ _ q1))⟩⟩
    · exact P.elim
end
end Y
end

section
set_option Elab.async false
set_option linter.all false
set_option maxRecDepth 100000
set_option maxHeartbeats 2000000
/-! YQ: in, not in; walks with enumerate, zip. -/
namespace Y
open PySem PySem.Spec PyProof.Rows L2

def inD (h : Hm) (x y : D) : Option Bool := match dctOf h y with
  | some kvs => match keyOf x with
    | some k => some (getK kvs k).isSome
    | none => none
  | none => match dtuOf h y with
   | some kvs => match tkOf x with
    | some k => some (getK kvs k).isSome
    | none => none
   | none => match seqOf h y with
    | some ds => match py h x, pyL h ds with
      | some d, some es => if SeqAt.shaped d && SeqAt.shaped (.list es) then some (es.any fun z => PyData.eqv z d) else none
      | _, _ => none
    | none => none
def oIn (h : Hm) (x y : D) : Option D := (inD h x y).map .bl
def oNotIn (h : Hm) (x y : D) : Option D := (inD h x y).map fun b => .bl (!b)
theorem keys_rep {K : PySem.W.Frag} {φ : List Addr} {H : Hp} : ∀ {xs : List D} {vs : List V} {ks : List Key}, RepL K φ H xs vs → keysOf xs = some ks → vs = ks.map kV
  | [], _, _, r, e => by
    cases r
    simp only [keysOf, Option.some.injEq] at e
    subst e
    rfl
  | x :: xs, _, ks, r, e => by
    cases r with
    | cons h r =>
      simp only [keysOf] at e
      cases e1 : keyOf x with
      | none => rw [e1] at e; cases e
      | some k =>
        cases e2 : keysOf xs with
        | none => rw [e1, e2] at e; cases e
        | some ks' =>
          rw [e1, e2] at e
          cases e
          rw [key_of_rep h e1, keys_rep r e2]
          rfl
theorem tk_of_rep {K : PySem.W.Frag} {φ : List Addr} {H : Hp} {y : D} {u : V} {ks : List Key} (r : Rep K φ H y u) (e : tkOf y = some ks) : ∃ b, u = .ref b ∧ H b = some (.tup (ks.map kV)) := by
  cases r <;> simp only [tkOf] at e <;> try (cases e; done)
  rename_i a ds vs hq rr
  refine ⟨a, rfl, ?_⟩
  rw [← keys_rep rr e]
  exact hq
section
variable {X : Cx} {k : Nat}
theorem in_gen (c : Cs k X) {F : Value → Value → Sem Value} (f : Bool → Bool)
    (hdct : ∀ {pins : List (Addr × Obj)} {s : Shared} {σ : L2.St} {H : Hp} {a : Addr} {y : V} {u : Value} {o : Option V} {Q : Value → Shared → Prop} {E : Value → Shared → Prop}, L2.Inv X pins σ H s → DGet H a y o → RelV y u → (∀ s', L2.Inv X pins σ H s' → Q (.bool (f o.isSome)) s') → wpAny (model X.prog X.w) X.A (F u (.ref a)) Q E s)
    (hseq : ∀ {pins : List (Addr × Obj)} {s : Shared} {σ : L2.St} {H : Hp} {a : Addr} {x : V} {u : Value} {vs : List V} {d : PyData} {es : List PyData} {Q : Value → Shared → Prop} {E : Value → Shared → Prop}, L2.Inv X pins σ H s → (SqL X.K H a vs ∨ SqT X.K H a vs) → DpAll X.K H vs es → Dp X.K H x d → RelV x u → SeqAt.shaped d = true → SeqAt.shaped (.list es) = true → Q (.bool (f (es.any fun z => PyData.eqv z d))) s → wpAny (model X.prog X.w) X.A (F u (.ref a)) Q E s) :
    OpY X F (fun h x y => (inD h x y).map fun b => .bl (f b)) := opY1 fun Q φ H h x y v u z R rx ry e q => by
  obtain ⟨b, e1, rfl⟩ := Option.map_eq_some_iff.mp e
  have q' : Q (.bl (f b)) H := q _ (.bl _)
  refine ⟨fun v' u' H' Q' => v' = v ∧ u' = u ∧ H' = H ∧ Q' (.bl (f b)) H, ?_, rfl, rfl, rfl, q'⟩
  intro pins s σ H1 xv yv vv uu Q1 I r1 r2 hh
  obtain ⟨rfl, rfl, rfl, qq⟩ := hh
  unfold inD at e1
  cases ed : dctOf h y with
  | some kvs =>
    rw [ed] at e1
    cases ek : keyOf x with
    | none => rw [ek] at e1; cases e1
    | some ky =>
      rw [ek] at e1
      cases e1
      have e3 := key_of_rep rx ek
      subst e3
      cases ry <;> simp only [dctOf] at ed <;> try (cases ed; done)
      rename_i n ad hk
      obtain ⟨ob, h3, h4⟩ := R.at hk
      rw [h3] at ed
      cases ob <;> simp at ed
      subst ed
      cases r2
      cases h4 with
      | dct hh rr =>
        rename_i kv
        rcases rr.get ky with ⟨z1, z2⟩ | ⟨dd, w, z1, z2, z3⟩
        · refine hdct I (.k hh (k := ky)) r1 fun s' I' => ⟨.bl _, _, I', rfl, ?_⟩
          rw [z1] at qq
          rw [z2]
          exact qq
        · refine hdct I (.k hh (k := ky)) r1 fun s' I' => ⟨.bl _, _, I', rfl, ?_⟩
          rw [z1] at qq
          rw [z2]
          exact qq
  | none =>
    rw [ed] at e1
    simp only at e1
    cases et : dtuOf h y with
    | some kvs =>
      rw [et] at e1
      cases ek : tkOf x with
      | none => rw [ek] at e1; cases e1
      | some ky =>
        rw [ek] at e1
        cases e1
        obtain ⟨b0, e3, hb0⟩ := tk_of_rep rx ek
        subst e3
        cases ry <;> simp only [dtuOf] at et <;> try (cases et; done)
        rename_i n ad hk
        obtain ⟨ob, h3, h4⟩ := R.at hk
        rw [h3] at et
        cases ob <;> simp at et
        subst et
        cases r2
        cases h4 with
        | dtu hh rr =>
          rcases rr.get ky with ⟨z1, z2⟩ | ⟨dd, w, z1, z2, z3⟩
          · refine hdct I (.t hh hb0 (k := ky)) r1 fun s' I' => ⟨.bl _, _, I', rfl, ?_⟩
            rw [z1] at qq
            rw [z2]
            exact qq
          · refine hdct I (.t hh hb0 (k := ky)) r1 fun s' I' => ⟨.bl _, _, I', rfl, ?_⟩
            rw [z1] at qq
            rw [z2]
            exact qq
    | none =>
    rw [et] at e1
    simp only at e1
    cases es : seqOf h y with
    | none => rw [es] at e1; cases e1
    | some ds =>
      rw [es] at e1
      simp only at e1
      cases ex : py h x with
      | none => rw [ex] at e1; cases e1
      | some d =>
        cases el : pyL h ds with
        | none => rw [ex, el] at e1; cases e1
        | some ps =>
          rw [ex, el] at e1
          simp only at e1
          split at e1
          · rename_i hc
            simp only [Bool.and_eq_true] at hc
            cases e1
            obtain ⟨a, vs, rfl, hq, rr⟩ := seq_at R ry es
            cases r2
            exact hseq I hq (RepL.dp ds _ _ el rr) (Rep.dp x _ d ex rx) r1 hc.1 hc.2 ⟨.bl _, _, I, rfl, qq⟩
          · cases e1
theorem y_in (c : Cs k X) : OpY X (compareOp .In) oIn := in_gen c (fun b => b) (fun I g r q => d_in c.hu I g r q) fun {pins s σ H a x u vs d es Q E} I hq hr hx ru sd se q => by
  have hu := c.room.un
  obtain ⟨bs, r1⟩ := Dp.reads I d x u hx ru
  rcases hq with hq | hq
  · obtain ⟨as, r2⟩ := Dp.reads I (.list es) (.ref a) (.ref a) (.lst hq hr) rfl
    exact SeqAt.in_list_reads r2 r1 (SeqAt.canLay_of_shaped se) (SeqAt.canLay_of_shaped sd) (room_in_shaped sd (by omega)) q
  · obtain ⟨as, r2⟩ := Dp.reads I (.tuple es) (.ref a) (.ref a) (.tup hq hr) rfl
    exact SeqAt.in_tuple_reads r2 r1 (SeqAt.canLay_of_shaped se) (SeqAt.canLay_of_shaped sd) (room_in_shaped sd (by omega)) q
theorem y_notIn (c : Cs k X) : OpY X (compareOp .NotIn) oNotIn := in_gen c (fun b => !b) (fun I g r q => d_notIn c.hu I g r q) fun {pins s σ H a x u vs d es Q E} I hq hr hx ru sd se q => by
  have hu := c.room.un
  obtain ⟨bs, r1⟩ := Dp.reads I d x u hx ru
  rcases hq with hq | hq
  · obtain ⟨as, r2⟩ := Dp.reads I (.list es) (.ref a) (.ref a) (.lst hq hr) rfl
    exact SeqAt.notIn_list_reads r2 r1 (SeqAt.canLay_of_shaped se) (SeqAt.canLay_of_shaped sd) (room_in_shaped sd (by omega)) q
  · obtain ⟨as, r2⟩ := Dp.reads I (.tuple es) (.ref a) (.ref a) (.tup hq hr) rfl
    exact SeqAt.notIn_tuple_reads r2 r1 (SeqAt.canLay_of_shaped se) (SeqAt.canLay_of_shaped sd) (room_in_shaped sd (by omega)) q
end
/-! ### zip, enumerate -/
def pairsD : List D → List D → List D
  | x :: xs, y :: ys => .tup [x, y] :: pairsD xs ys
  | _, _ => []
def enumD (i : Nat) : List D → List D
  | x :: xs => .tup [.int i, x] :: enumD (i + 1) xs
  | [] => []
def frzOf : D → Option (List D)
  | .fl xs => some xs
  | .sq xs => some xs
  | _ => none
/-- zip(x, y): two lists that are never changed, or two tuples -/
def zipD : List D → Option (List D)
  | [x, y] => match x with
    | .tup xs => match y with
      | .tup ys => some (pairsD xs ys)
      | _ => none
    | x => match frzOf x, frzOf y with
      | some xs, some ys => some (pairsD xs ys)
      | _, _ => none
  | _ => none
def iZipD (a : Av) : Iv := fun σ h => (a σ h).bind fun xs h1 => ofO (zipD xs) h1
def numD : List D → Option (List D)
  | [x] => (frzOf x).map (enumD 0)
  | _ => none
def iEnumD (a : Av) : Iv := fun σ h => (a σ h).bind fun xs h1 => ofO (numD xs) h1
theorem zip_cases {xs ds : List D} (e : zipD xs = some ds) : (∃ a b, xs = [.tup a, .tup b] ∧ ds = pairsD a b) ∨ ∃ x y a b, xs = [x, y] ∧ frzOf x = some a ∧ frzOf y = some b ∧ ds = pairsD a b := by
  rcases xs with _ | ⟨x, _ | ⟨y, _ | _⟩⟩
  · cases e
  · cases e
  · by_cases hx : ∃ a, x = .tup a
    · obtain ⟨a, rfl⟩ := hx
      simp only [zipD] at e
      cases y <;> simp only at e <;> try (cases e; done)
      cases e
      exact .inl ⟨_, _, rfl, rfl⟩
    · have e' : (match frzOf x, frzOf y with | some xs, some ys => some (pairsD xs ys) | _, _ => none) = some ds := by
        cases x <;> first | exact e | exact absurd ⟨_, rfl⟩ hx
      cases f1 : frzOf x with
      | none => rw [f1] at e'; cases e'
      | some a =>
        cases f2 : frzOf y with
        | none => rw [f1, f2] at e'; cases e'
        | some b => rw [f1, f2] at e'; cases e'; exact .inr ⟨x, y, a, b, rfl, f1, f2, rfl⟩
  · cases e
theorem pairs_get : ∀ {xs ys : List D} {i : Nat} {d : D}, (pairsD xs ys)[i]? = some d → ∃ x y, xs[i]? = some x ∧ ys[i]? = some y ∧ d = .tup [x, y]
  | [], ys, i, d, h => by cases ys <;> simp [pairsD] at h
  | x :: xs, [], i, d, h => by simp [pairsD] at h
  | x :: xs, y :: ys, 0, d, h => by simp [pairsD] at h; exact ⟨x, y, rfl, rfl, h.symm⟩
  | x :: xs, y :: ys, i + 1, d, h => by
    simp [pairsD] at h
    obtain ⟨a, b, h1, h2, h3⟩ := pairs_get h
    exact ⟨a, b, by simpa using h1, by simpa using h2, h3⟩
theorem pairs_len : ∀ (xs ys : List D), xs.length ≤ (pairsD xs ys).length ∨ ys.length ≤ (pairsD xs ys).length
  | [], ys => by simp
  | x :: xs, [] => by simp
  | x :: xs, y :: ys => by
    have := pairs_len xs ys
    simp [pairsD]
    exact this
theorem enum_get : ∀ {xs : List D} {j i : Nat} {d : D}, (enumD j xs)[i]? = some d → ∃ x, xs[i]? = some x ∧ d = .tup [.int ((j + i : Nat) : Int), x]
  | [], j, i, d, h => by simp [enumD] at h
  | x :: xs, j, 0, d, h => by simp [enumD] at h; exact ⟨x, rfl, by simpa using h.symm⟩
  | x :: xs, j, i + 1, d, h => by
    simp [enumD] at h
    obtain ⟨a, h1, h2⟩ := enum_get h
    exact ⟨a, by simpa using h1, by rw [h2]; congr 4; omega⟩
theorem enum_len : ∀ (xs : List D) (j : Nat), (enumD j xs).length = xs.length
  | [], _ => rfl
  | x :: xs, j => by simp [enumD, enum_len xs]
section
variable {X : Cx} {cl : Nat → Addr} {W : WX} {a b : Expr} {fa : Av} {pos : Pos}
theorem frz_at {φ : List Addr} {H : Hp} {x : D} {v : V} (rx : Rep X.K φ H x v) {xs : List D} (e : frzOf x = some xs) : ∃ a vs, v = .ref a ∧ (∀ H', Per H H' → SqL X.K H' a vs) ∧ RepL X.K φ H xs vs := by
  cases rx <;> simp only [frzOf] at e <;> try (cases e; done)
  · cases e; rename_i hq rr; exact ⟨_, _, rfl, fun H' p => .inl (.inr ⟨_, p.frz _ _ _ hq⟩), rr⟩
  · cases e; rename_i hq rr; exact ⟨_, _, rfl, fun H' p => (hq.per p).sq, rr⟩
theorem pair_rep {K : PySem.W.Frag} {φ : List Addr} {H : Hp} {h : Hm} (R : HR K φ H h) {T : Addr} {d1 d2 : D} {x y : V} (hT : H T = none) (r1 : Rep K φ H d1 x) (r2 : Rep K φ H d2 y) :
    Lat φ H φ (upd H T (.tup [x, y])) ∧ HR K φ (upd H T (.tup [x, y])) h ∧ Rep K φ (upd H T (.tup [x, y])) (.tup [d1, d2]) (.ref T) :=
  ⟨Lat.new hT, R.new hT, .tup upd_same (.cons (Rep.mono (List.prefix_refl _) (Per.new hT) _ _ r1) (.cons (Rep.mono (List.prefix_refl _) (Per.new hT) _ _ r2) .nil))⟩
theorem drv_zipL {K : PySem.W.Frag} {φ : List Addr} {H : Hp} {p q : Addr} {xs ys : List D} {vs us : List V} (h1 : ∀ H', Per H H' → SqL K H' p vs) (h2 : ∀ H', Per H H' → SqL K H' q us) (r1 : RepL K φ H xs vs) (r2 : RepL K φ H ys us) : Drv K φ H (Itz K p q) (pairsD xs ys) := fun φ' H' h l R => by
  have q1 := RepL.mono l.pre l.per _ _ r1
  have q2 := RepL.mono l.pre l.per _ _ r2
  refine ⟨fun i d e => ?_, vs, us, h1 _ l.per, h2 _ l.per, ?_⟩
  · obtain ⟨x, y, e1, e2, rfl⟩ := pairs_get e
    obtain ⟨v, z1, z2⟩ := q1.get e1
    obtain ⟨u, z3, z4⟩ := q2.get e2
    refine ⟨⟨vs, us, v, u, h1 _ l.per, h2 _ l.per, z1, z3⟩, fun w H2 yl => ?_⟩
    obtain ⟨T, v', u', rfl, hT, rfl, y1, y2⟩ := yl
    have w1 := y1 vs (h1 _ l.per)
    have w2 := y2 us (h2 _ l.per)
    rw [z1] at w1; rw [z3] at w2
    cases w1; cases w2
    exact pair_rep R hT z2 z4
  · rw [← q1.length, ← q2.length]
    exact pairs_len xs ys
theorem drv_zipT {K : PySem.W.Frag} {φ : List Addr} {H : Hp} {p q : Addr} {xs ys : List D} {vs us : List V} (h1 : ∀ H', Per H H' → SqT K H' p vs) (h2 : ∀ H', Per H H' → SqT K H' q us) (r1 : RepL K φ H xs vs) (r2 : RepL K φ H ys us) : Drv K φ H (RZ.ItzT K p q) (pairsD xs ys) := fun φ' H' h l R => by
  have q1 := RepL.mono l.pre l.per _ _ r1
  have q2 := RepL.mono l.pre l.per _ _ r2
  refine ⟨fun i d e => ?_, vs, us, h1 _ l.per, h2 _ l.per, ?_⟩
  · obtain ⟨x, y, e1, e2, rfl⟩ := pairs_get e
    obtain ⟨v, z1, z2⟩ := q1.get e1
    obtain ⟨u, z3, z4⟩ := q2.get e2
    refine ⟨⟨vs, us, v, u, h1 _ l.per, h2 _ l.per, z1, z3⟩, fun w H2 yl => ?_⟩
    obtain ⟨T, v', u', rfl, hT, rfl, y1, y2⟩ := yl
    have w1 := y1 vs (h1 _ l.per)
    have w2 := y2 us (h2 _ l.per)
    rw [z1] at w1; rw [z3] at w2
    cases w1; cases w2
    exact pair_rep R hT z2 z4
  · rw [← q1.length, ← q2.length]
    exact pairs_len xs ys
theorem drv_enum {K : PySem.W.Frag} {φ : List Addr} {H : Hp} {p : Addr} {xs : List D} {vs : List V} (h1 : ∀ H', Per H H' → SqL K H' p vs) (r1 : RepL K φ H xs vs) : Drv K φ H (Ite K p) (enumD 0 xs) := fun φ' H' h l R => by
  have q1 := RepL.mono l.pre l.per _ _ r1
  refine ⟨fun i d e => ?_, vs, h1 _ l.per, by rw [enum_len, q1.length]; exact Nat.le_refl _⟩
  obtain ⟨x, e1, rfl⟩ := enum_get e
  obtain ⟨v, z1, z2⟩ := q1.get e1
  refine ⟨⟨vs, v, h1 _ l.per, z1⟩, fun w H2 yl => ?_⟩
  obtain ⟨T, v', rfl, hT, rfl, y1⟩ := yl
  have w1 := y1 vs (h1 _ l.per)
  rw [z1] at w1
  cases w1
  rw [Nat.zero_add]
  exact pair_rep R hT (.int _) z2
theorem i_zip {elts : List Expr} {kk : Nat} {tpos p : Pos} (hg : Gl X "zip") (hm : X.mg "zip" = none) (ha : SA X cl W [a, b] fa) (hs : starEach [a, b] X.env = (false, eval a X.env) :: starEach [b] X.env := by rfl) (hpl : (backTo pos (starEach [b] X.env)).any (·.1) = false := by rfl) :
    SI X cl W (.Tuple elts kk tpos) (.Call (.Name "zip" p) [a, b] [] pos) (iZipD fa) := PI.of (RZ.pi_zipA hg hm ha hs hpl) fun σ H R p => by
  obtain ⟨φ, st, h0, S, R0, P⟩ := p
  refine ⟨φ, st, h0, S, R0, ?_⟩
  simp only [iZipD] at P
  cases e : fa st h0 with
  | bad => simp only [e, Rs.bind] at P
  | ex _ _ => simp only [e, Rs.bind] at P; exact P
  | ok xs h1 =>
    simp only [e, Rs.bind] at P
    intro φ1 H1 vs l1 r1 q1
    cases ez : zipD xs with
    | none => rw [ez] at P; exact P.elim
    | some ds =>
      rw [ez] at P
      rcases zip_cases ez with ⟨a, b, rfl, rfl⟩ | ⟨x, y, a, b, rfl, f1, f2, rfl⟩
      · cases q1 with
        | cons q1 q2 =>
          cases q2 with
          | cons q2 q3 =>
            cases q3
            cases q1 with
            | tup g1 g2 =>
              cases q2 with
              | tup g3 g4 => exact ⟨_, _, _, _, rfl, .inr ⟨SqT.of g1, SqT.of g3, P φ1 H1 _ l1 r1 (drv_zipT (fun H' p => SqT.of (p.tup _ _ g1)) (fun H' p => SqT.of (p.tup _ _ g3)) g2 g4)⟩⟩
      · cases q1 with
        | cons q1 q2 =>
          cases q2 with
          | cons q2 q3 =>
            cases q3
            obtain ⟨p, us, rfl, g1, g2⟩ := frz_at q1 f1
            obtain ⟨q, ws, rfl, g3, g4⟩ := frz_at q2 f2
            exact ⟨p, q, us, ws, rfl, .inl ⟨g1 _ (Per.refl _), g3 _ (Per.refl _), P φ1 H1 _ l1 r1 (drv_zipL g1 g3 g2 g4)⟩⟩
theorem i_enum {elts : List Expr} {kk : Nat} {tpos p : Pos} (hg : Gl X "enumerate") (hm : X.mg "enumerate" = none) (ha : SA X cl W [a] fa) (hs : starEach [a] X.env = [(false, eval a X.env)] := by rfl) :
    SI X cl W (.Tuple elts kk tpos) (.Call (.Name "enumerate" p) [a] [] pos) (iEnumD fa) := PI.of (pi_enum hg hm ha hs) fun σ H R p => by
  obtain ⟨φ, st, h0, S, R0, P⟩ := p
  refine ⟨φ, st, h0, S, R0, ?_⟩
  simp only [iEnumD] at P
  cases e : fa st h0 with
  | bad => simp only [e, Rs.bind] at P
  | ex _ _ => simp only [e, Rs.bind] at P; exact P
  | ok xs h1 =>
    simp only [e, Rs.bind] at P
    intro φ1 H1 vs l1 r1 q1
    rcases xs with _ | ⟨x, _ | _⟩ <;> simp only [numD, ofO] at P
    cases f1 : frzOf x with
    | none => rw [f1] at P; exact P.elim
    | some a =>
      rw [f1] at P
      obtain ⟨v, rfl, rv⟩ := RepL.one q1
      obtain ⟨p, us, rfl, g1, g2⟩ := frz_at rv f1
      exact ⟨p, us, rfl, g1 _ (Per.refl _), P φ1 H1 _ l1 r1 (drv_enum g1 g2)⟩
end
end Y
end

section
set_option Elab.async false
set_option linter.all false
set_option maxRecDepth 100000
set_option maxHeartbeats 2000000
/-! YR: slices. -/
namespace Y
open PySem PySem.Spec PyProof.Rows L2

abbrev Ov := Sl → Hm → Rs (Option Int)
def oN : Ov := fun _ h => .ok none h
def oS (f : Ev) : Ov := fun σ h => (f σ h).bind fun x h1 => match x with
  | .int i => .ok (some i) h1
  | _ => .bad
def cutD (xs : List D) (lo hi : Option Int) : List D := (xs.drop (HT.sIx xs.length 0 lo)).take (HT.sIx xs.length xs.length hi - HT.sIx xs.length 0 lo)
/-- x[lo:hi]: of a tuple a tuple, of a list a list that is held as it is -/
def eSl (f : Ev) (l u : Ov) : Ev := fun σ h => (f σ h).bind fun x h1 => (l σ h1).bind fun lo h2 => (u σ h2).bind fun hi h3 => match x with
  | .tup xs => .ok (.tup (cutD xs lo hi)) h3
  | x => match lstOf h3 x with
    | some xs => .ok (.fl (cutD xs lo hi)) h3
    | none => .bad
def ROpt : RT (Option Int) (Option Int) := fun _ _ _ a b => a = b
instance : Back ROpt := ⟨fun _ _ h => h⟩
abbrev SO (X : Cx) (cl : Nat → Addr) (W : WX) (e : Option Expr) (f : Ov) : Prop := PO X e (tG X.K cl W ROpt f)
section
variable {X : Cx} {cl : Nat → Addr} {W : WX} {a : Expr} {e : Option Expr} {f : Ev} {l u : Ov} {pos p2 : Pos} {lo hi : Option Expr}
theorem o_none : SO X cl W none oN := ⟨fun pins s σ H Q I ⟨φ, st, h0, S, R, P⟩ => po_none.run pins s σ H Q I (P.val R rfl)⟩
theorem o_some {a : Expr} (h : SE X cl W a f) : SO X cl W (some a) (oS f) := by
  refine ⟨fun pins s σ H Q I p => (po_some h).run pins s σ H Q I ?_⟩
  refine seq1 (k := fun x h1 => match x with | .int i => .ok (some i) h1 | _ => .bad) p fun φ H1 h1 x v R rx P => ?_
  cases rx with
  | int i => exact ⟨i, rfl, P.val R rfl⟩
  | _ => exact P.elim
theorem RepL.cut' {K : PySem.W.Frag} {φ : List Addr} {H : Hp} {xs : List D} {vs : List V} (r : RepL K φ H xs vs) (lo hi : Option Int) : RepL K φ H (cutD xs lo hi) (cutV vs lo hi) := by
  have dropR : ∀ (n : Nat) {xs : List D} {vs : List V}, RepL K φ H xs vs → RepL K φ H (xs.drop n) (vs.drop n) := by
    intro n
    induction n with
    | zero => intro xs vs r; simpa using r
    | succ n ih =>
      intro xs vs r
      cases r with
      | nil => simp; exact .nil
      | cons _ r => simpa using ih r
  have takeR : ∀ (n : Nat) {xs : List D} {vs : List V}, RepL K φ H xs vs → RepL K φ H (xs.take n) (vs.take n) := by
    intro n
    induction n with
    | zero => intro xs vs r; simp; exact .nil
    | succ n ih =>
      intro xs vs r
      cases r with
      | nil => simp; exact .nil
      | cons h r => simpa using .cons h (ih r)
  unfold cutD cutV
  rw [r.length]
  exact takeR _ (dropR _ r)
theorem cut_all {vs : List V} {lo hi : Option Int} (h : HT.sIx vs.length 0 lo = 0 ∧ HT.sIx vs.length vs.length hi = vs.length) : cutV vs lo hi = vs := by
  unfold cutV
  rw [h.1, h.2]
  simp
theorem s_sl (ha : SE X cl W a f) (hl : SO X cl W lo l) (hu : SO X cl W hi u) : SE X cl W (.Subscript a (.Slice lo hi none p2) pos) (eSl f l u) := by
  refine ⟨fun pins s σ H Q I p => ?_⟩
  refine thn ((pe_slice (sl_tupA.or sl_list) ha hl hu).run pins s σ H (fun v H1 => Q v H1 ∨ ∃ p vs, v = .ref p ∧ H1 p = some (.lst vs) ∧ ∀ o, Q v (upd H1 p (.frz o (.lst vs)))) I ?_) fun w s1 ⟨v, H1, I1, rv, q⟩ => ?_
  · obtain ⟨φ, st, h0, S, R0, P⟩ := p
    refine ⟨φ, st, h0, S, R0, P.seq fun x h1 φ1 H1 v l1 r1 q1 P1 => ⟨φ1, st, h1, S.mono l1, r1, P1.seq fun lo h2 φ2 H2 lo' l2 r2 e2 P2 => ⟨φ2, st, h2, S.mono (l1.trans l2), r2, P2.seq fun hi h3 φ3 H3 hi' l3 r3 e3 P3 => ?_⟩⟩⟩
    cases (show lo = lo' from e2)
    cases (show hi = hi' from e3)
    have q3 := Rep.mono (l2.trans l3).pre (l2.trans l3).per _ _ q1
    have lists : ∀ xs, lstOf h3 x = some xs → Post X.K cl φ3 H3 (RR X.K) (.ok (.fl (cutD xs lo hi)) h3) Q (fun c d H' => W c d σ H') → rSlL X.K v lo hi H3 fun v H1 => Q v H1 ∨ ∃ p vs, v = .ref p ∧ H1 p = some (.lst vs) ∧ ∀ o, Q v (upd H1 p (.frz o (.lst vs))) := by
      intro xs ex P
      obtain ⟨a, vs, rfl, hq, rr⟩ := lst_at r3 q3 ex
      refine ⟨a, vs, rfl, hq, fun p hp => .inr ⟨p, _, rfl, upd_same, fun o => ?_⟩⟩
      have R1 := r3.new (o := .lst (cutV vs lo hi)) hp
      have rr1 := RepL.mono (List.prefix_refl _) (Per.new (o := .lst (cutV vs lo hi)) hp) _ _ (rr.cut' lo hi)
      obtain ⟨z1, z2, z3⟩ := Fresh.frz (o := o) (Lat.new hp) hp R1 (r3.notin hp) upd_same rr1
      exact P φ3 _ _ z1 z2 z3
    cases q3 with
    | tup hq rr =>
      refine .inl ⟨_, _, rfl, SqT.of hq, fun hw => .inl ?_, fun hw p hp => .inl ?_⟩
      · have rc := rr.cut' lo hi
        rw [cut_all hw] at rc
        exact P3 φ3 H3 _ (Lat.refl _ _) r3 (.tup hq rc)
      · exact P3 φ3 _ _ (Lat.new hp) (r3.new hp) (.tup upd_same (RepL.mono (List.prefix_refl _) (Per.new hp) _ _ (rr.cut' lo hi)))
    | fl hq rr => exact .inr (lists _ rfl P3)
    | sq hq rr => exact .inr (lists _ rfl P3)
    | loc hk =>
      simp only at P3
      cases el : lstOf h3 (.loc _) with
      | none => rw [el] at P3; exact P3.elim
      | some xs => rw [el] at P3; exact .inr (lists _ el P3)
    | _ => exact P3.elim
  · rcases q with q | ⟨p, vs, rfl, e1, q⟩
    · exact ⟨v, H1, I1, rv, q⟩
    · obtain ⟨o, I2⟩ := inv_frz I1 e1
      exact ⟨_, _, I2, rv, q o⟩
end
end Y
end

section
set_option Elab.async false
set_option linter.all false
set_option maxRecDepth 100000
set_option maxHeartbeats 2000000
/-! YS: x += e. -/
namespace Y
open PySem PySem.Spec PyProof.Rows L2

def oAddI (_ : Hm) : D → D → Option D
  | .int i, .int j => some (.int (i + j))
  | .str a, .str b => if a.length + b.length ≤ line then some (.str (a ++ b)) else none
  | _, _ => none
section
variable {X : Cx} {cl : Nat → Addr} {W : WX} {e : Expr} {f : Ev} {pos pos' : Pos} {k : Nat}
theorem z_add : OpY X (inplaceOp .Add) oAddI := opY1 fun Q φ H h x y v u z R rx ry e q => by
  cases rx <;> cases ry <;> simp only [oAddI] at e <;> try (cases e; done)
  · cases e
    exact ⟨_, iop_add, _, _, rfl, rfl, q _ (.int _)⟩
  · split at e
    · cases e
      exact ⟨_, iop_add_str, _, _, rfl, rfl, by rw [← line_eq]; assumption, q _ (.str _)⟩
    · cases e
theorem z_sub : OpY X (inplaceOp .Sub) oSub := opY1 fun Q φ H h x y v u z R rx ry e q => by
  cases rx <;> cases ry <;> simp [oSub] at e
  subst e
  exact ⟨_, iop_sub, _, _, rfl, rfl, q _ (.int _)⟩
theorem z_mul : OpY X (inplaceOp .Mult) oMul := opY1 fun Q φ H h x y v u z R rx ry e q => by
  cases rx <;> cases ry <;> simp [oMul] at e
  obtain ⟨c, rfl⟩ := e
  refine ⟨_, iop_mul, _, _, rfl, rfl, ?_, q _ (.int _)⟩
  simp only [mulOk, Bool.or_eq_true, Bool.and_eq_true, decide_eq_true_eq, big_eq] at c
  exact c
theorem s_aug {i : Nat} {x : Str} {op : Operator} {o : Hm → D → D → Option D} (ho : OpY X (inplaceOp op) o) (hN : X.N.Nodup) (he : SE X cl W e f) (hi : X.N[i]? = some x := by rfl) (hx : Loc X.env.scope x := by first | exact Or.inl rfl | exact Or.inr rfl)
    (hf : X.fn x = true ∨ X.env.scope.names.lookup x = some .local := by first | exact .inl rfl | exact .inr rfl | assumption) : SS X cl W (.AugAssign (.Name x pos') op e pos) (sAug i o f) :=
  PS.of (ps_aug (ti := rY X.K o) hN hi hx he ho.r hf) fun D σ H p => by
    obtain ⟨φ, st, h0, S, R0, P⟩ := p
    unfold sAug at P
    cases e0 : st[i]? with
    | none => rw [e0] at P; exact P.elim
    | some oo =>
      cases oo with
      | none => rw [e0] at P; exact P.elim
      | some d0 =>
        rw [e0] at P
        simp only at P
        obtain ⟨v0, h1, rv0⟩ := S.get i d0 e0
        refine ⟨v0, h1, φ, st, h0, S, R0, ?_⟩
        cases e1 : f st h0 with
        | bad => simp only [e1, Rs.out] at P; exact P
        | ex ex1 h1 =>
          simp only [e1, Rs.out] at P
          exact fun φ' H' c d l r er => P φ' H' c d σ l r (S.mono l) er
        | ok y h1 =>
          simp only [e1, Rs.out] at P
          intro φ1 H1 w l1 r1 q1
          refine ⟨cl, fun c d H' => W c d σ H', φ1, h1, d0, y, r1, Rep.mono l1.pre l1.per _ _ rv0, q1, ?_⟩
          cases e2 : o h1 d0 y with
          | none => rw [e2] at P; exact P.elim
          | some z =>
            rw [e2] at P
            exact fun φ2 H2 w2 l2 r2 q2 => P φ2 H2 _ (l1.trans l2) r2 ((S.mono (l1.trans l2)).set i q2)
end
end Y
end

section
set_option Elab.async false
set_option linter.all false
set_option maxRecDepth 100000
set_option maxHeartbeats 2000000
/-! YT: objects of own classes: their fields, isinstance. -/
namespace Y
open PySem PySem.Spec PyProof.Rows L2

/-- x.n, x of the class c -/
def oFld (c n : Str) (_ : Hm) : D → Option D
  | .obj c' ns ds => if c' = c then (ns.zip ds).lookup n else none
  | _ => none
/-- isinstance(x, c) -/
def isO (c : Str) (h : Hm) : D → Option D
  | .obj c' _ _ => if c' = c then some (.bl true) else none
  | .loc k => (h[k]?).map fun _ => .bl false
  | _ => some (.bl false)
/-- what is known of the class -/
structure ObjF (K : PySem.W.Frag) (c : Str) (C : Addr) : Prop where
  ns : PySem.W.nsIn K mainGlobals c = some (some (.ref C))
  cl : Cls K C
  hc : PySem.W.findIn K (.ref C) "__class__" = some (some (.builtin "object.__class__"))
  gc : PySem.W.specialIn K (.builtin "object.__class__") "__get__" = some (some (.builtin "getset_descriptor.__get__"))
  tc : PySem.W.takesIn K (.builtin "object.__class__") = some true
  mc : PySem.W.mroIn K C (.type "object") = some true
  me : PySem.W.kitOne K (.ref C) (.ref C) = some true
  ne : excN c = false
  ot : ∀ T ∈ ["NoneType", "bool", "int", "str", "tuple", "list", "dict"], PySem.W.kitOne K (.type T) (.ref C) = some false
section
variable {X : Cx} {cl : Nat → Addr} {W : WX} {a : Expr} {f : Ev} {pos : Pos} {k : Nat} {c n : Str} {C : Addr}
theorem fld_at {K : PySem.W.Frag} {φ : List Addr} {H : Hp} {n : Str} {d : D} : ∀ {fs : List (Str × V)} {ds : List D}, RepL K φ H ds (fs.map (·.2)) → ((fs.map (·.1)).zip ds).lookup n = some d → ∃ v, fs.lookup n = some v ∧ Rep K φ H d v
  | [], ds, _, e => by simp at e
  | (m, v) :: fs, [], r, e => by cases r
  | (m, v) :: fs, x :: ds, r, e => by
    cases r with
    | cons h r =>
      simp only [List.map_cons, List.zip_cons_cons, List.lookup_cons] at e ⊢
      cases hm : (n == m) with
      | true =>
        rw [hm] at e
        simp only at e
        cases e
        exact ⟨v, rfl, h⟩
      | false =>
        rw [hm] at e
        simp only at e
        exact fld_at r e
theorem s_fld (T : ObjF X.K c C) (no : NoAttr X.K C n) (ha : SE X cl W a f) (hb : attributeBase a n X.env (eval a X.env) = eval a X.env := by rfl) : SE X cl W (.Attribute a n pos) (e1 (oFld c n) f) := PE.of (pe_fld ha hb) fun σ H Q p =>
  seq1 (k := fun x h1 => ofO (oFld c n h1 x) h1) p fun φ H1 h1 x v R rx P => by
    cases rx with
    | exo hc he =>
      simp only [oFld] at P
      split at P
      · rename_i ecc
        have := T.ne
        rw [← ecc, he] at this
        cases this
      · exact P.elim
    | @obj a' C' dx c' ns fs ds vs hc h e1 e2 r hf =>
      simp only [oFld] at P
      subst e1 e2
      split at P
      · rename_i ecc
        subst ecc
        have eC : C' = C := by
          have := hc.symm.trans T.ns
          cases this
          rfl
        subst eC
        cases ed : ((fs.map (·.1)).zip ds).lookup n with
        | none => rw [ed] at P; exact P.elim
        | some d =>
          rw [ed] at P
          obtain ⟨v, h1, h2⟩ := fld_at r ed
          exact ⟨_, _, _, _, v, rfl, h, T.cl, no, h1, P.val R h2⟩
      · exact P.elim
    | _ => simp only [oFld, ofO] at P; exact P.elim
theorem isO_sound (T : ObjF X.K c C) {φ : List Addr} {H : Hp} {h : Hm} {x : D} {v : V} {z : D} (R : HR X.K φ H h) (rx : Rep X.K φ H x v) (e : isO c h x = some z) : ∃ t b, z = .bl b ∧ TyX X.K H v t ∧ PySem.W.kitOne X.K t (.ref C) = some b := by
  have tupK : ∀ {a : Addr} {vs : List V}, SqT X.K H a vs → TyX X.K H (.ref a) (.type "tuple") := fun hq => by
    rcases hq with (h | ⟨o, h⟩) | ⟨o, its, n, hk, hc, _⟩
    · exact .base (.tup h)
    · exact .fTuple h
    · exact .kTuple hk hc
  have lstK : ∀ {a : Addr} {vs : List V}, SqL X.K H a vs → TyX X.K H (.ref a) (.type "list") := fun hq => by
    rcases hq with (h | ⟨o, h⟩) | ⟨o, its, n, hk, hc, _⟩
    · exact .base (.lst h)
    · exact .base (.frz h)
    · exact .kList hk hc
  cases rx with
  | non => simp only [isO] at e; cases e; exact ⟨_, _, rfl, .base .non, T.ot _ (by decide)⟩
  | bl b => simp only [isO] at e; cases e; exact ⟨_, _, rfl, .base (.bl b), T.ot _ (by decide)⟩
  | int b => simp only [isO] at e; cases e; exact ⟨_, _, rfl, .base (.int b), T.ot _ (by decide)⟩
  | str b => simp only [isO] at e; cases e; exact ⟨_, _, rfl, .base (.str b), T.ot _ (by decide)⟩
  | tup hq _ => simp only [isO] at e; cases e; exact ⟨_, _, rfl, tupK (SqT.of hq), T.ot _ (by decide)⟩
  | fl hq _ => simp only [isO] at e; cases e; exact ⟨_, _, rfl, lstK (.inl (.inr ⟨_, hq⟩)), T.ot _ (by decide)⟩
  | sq hq _ => simp only [isO] at e; cases e; exact ⟨_, _, rfl, lstK hq.sq, T.ot _ (by decide)⟩
  | loc hk =>
    obtain ⟨ob, h1, h2⟩ := R.at hk
    simp only [isO, h1, Option.map_some] at e
    cases e
    cases h2 with
    | lst hh _ => exact ⟨_, _, rfl, .base (.lst hh), T.ot _ (by decide)⟩
    | dct hh _ => exact ⟨_, _, rfl, .base (.dK hh), T.ot _ (by decide)⟩
    | dtu hh _ => exact ⟨_, _, rfl, .base (.dT hh), T.ot _ (by decide)⟩
  | obj hc h e1 e2 r =>
    simp only [isO] at e
    split at e
    · rename_i ecc
      subst ecc
      have := hc.symm.trans T.ns
      cases this
      cases e
      exact ⟨_, _, rfl, .base (.ins h T.cl T.hc T.gc T.tc T.mc), T.me⟩
    · cases e
  | exo hc he =>
    simp only [isO] at e
    split at e
    · rename_i ecc
      subst ecc
      rw [T.ne] at he
      cases he
    · cases e
theorem s_isO {p1 p2 : Pos} (T : ObjF X.K c C) (gm : X.mg c = some (.ref C)) (ha : SE X cl W a f) (hm : X.mg "isinstance" = none) (hg : Gl X "isinstance" := by rfl) (hg2 : Gl X c := by rfl) (hd : (c == ("__debug__" : Str)) = false := by decide)
    (he : starEach [a, .Name c p2] X.env = (false, eval a X.env) :: starEach [.Name c p2] X.env := by rfl)
    (he2 : starEach [.Name c p2] X.env = (false, eval (.Name c p2) X.env) :: starEach [] X.env := by rfl)
    (hpl : (backTo pos (starEach [.Name c p2] X.env)).any (·.1) = false := by rfl) :
    SE X cl W (.Call (.Name "isinstance" p1) [a, .Name c p2] [] pos) (e1 (isO c) f) := by
  have pn : PE X (.Name c p2) (L2.tC (.ref C)) := ⟨fun pins s σ H Q I q => ld_glob I hg2 gm ⟨.ref C, H, I, rfl, q⟩ hd⟩
  refine PE.of (pe_callB call_isi hg hm (by decide +kernel) (pa_cons ha (pa_cons pn pa_nil he2) he) (by decide) (by decide) he hpl) fun σ H Q p => ?_
  refine seq1 (k := fun x h1 => ofO (isO c h1 x) h1) p fun φ H1 h1 x v R rx P => ?_
  cases e : isO c h1 x with
  | none => rw [e] at P; exact P.elim
  | some z =>
    rw [e] at P
    obtain ⟨t, b, rfl, h2, h3⟩ := isO_sound T R rx e
    exact ⟨v, .ref C, t, .ref C, b, rfl, .own C, h2, h3, P.val R (.bl b)⟩
end
end Y
end

section
set_option Elab.async false
set_option linter.all false
set_option maxRecDepth 100000
set_option maxHeartbeats 2000000
/-! YU: min, max of two ints; list(range(..)). -/
namespace Y
open PySem PySem.Spec PyProof.Rows L2
/-- max(i, j), min(i, j) -/
def bMax2 (_ : Hm) : List D → Option D
  | [.int i, .int j] => some (.int (if j > i then j else i))
  | _ => none
def bMin2 (_ : Hm) : List D → Option D
  | [.int i, .int j] => some (.int (if j < i then j else i))
  | _ => none
/-- list(range(..)) -/
def mRng1 : D → Option (List D)
  | .int j => if 0 ≤ j ∧ j.natAbs.log2 < 24 then some (rangeD 0 j.toNat) else none
  | _ => none
def mRng2 : D → D → Option (List D)
  | .int i, .int j => if 0 ≤ i ∧ i.natAbs.log2 < 24 ∧ 0 ≤ j ∧ j.natAbs.log2 < 24 then some (rangeD i (j - i).toNat) else none
  | _, _ => none
def lRng1 (f : Ev) : Lv := fun σ h => (f σ h).bind fun x h1 => ofO (mRng1 x) h1
def lRng2 (f g : Ev) : Lv := fun σ h => (f σ h).bind fun x h1 => (g σ h1).bind fun y h2 => ofO (mRng2 x y) h2
section
variable {X : Cx} {cl : Nat → Addr} {W : WX} {a b : Expr} {fa fb : Ev} {pos : Pos}
theorem c_max2 (hc : X.calm = true) : CaY X (.builtin "max") bMax2 := caY fun Q φ H h xs vs z R r e q => by
  unfold bMax2 at e
  split at e
  · rename_i i j
    cases e
    cases r with
    | cons r1 r2 =>
      obtain ⟨w, rfl, rw'⟩ := RepL.one r2
      cases rw'
      cases r1
      exact ⟨_, call_max2 hc, i, j, rfl, q φ H _ (Lat.refl _ _) R (.int _)⟩
  · cases e
theorem c_min2 (hc : X.calm = true) : CaY X (.builtin "min") bMin2 := caY fun Q φ H h xs vs z R r e q => by
  unfold bMin2 at e
  split at e
  · rename_i i j
    cases e
    cases r with
    | cons r1 r2 =>
      obtain ⟨w, rfl, rw'⟩ := RepL.one r2
      cases rw'
      cases r1
      exact ⟨_, call_min2 hc, i, j, rfl, q φ H _ (Lat.refl _ _) R (.int _)⟩
  · cases e
theorem rep_rg {K : PySem.W.Frag} {φ : List Addr} {H : Hp} (lo : Int) : ∀ (js : List Nat), RepL K φ H (js.map fun i => D.int (lo + (i : Nat))) (js.map fun i => V.int (lo + (i : Nat)))
  | [] => .nil
  | _ :: js => .cons (.int _) (rep_rg lo js)
theorem log24 {j : Int} (h : 0 ≤ j) (h2 : j.natAbs.log2 < 24) : j ≤ 16777216 := by
  have := log2_lt h2
  omega
theorem l_rng1 {p p2 pos2 : Pos} (hc : X.calm = true) (hg : Gl X "list") (hm : X.mg "list" = none) (hg2 : Gl X "range") (hm2 : X.mg "range" = none) (ha : SE X cl W a fa)
    (na : starEach [a] X.env = (false, eval a X.env) :: starEach [] X.env := by rfl)
    (nr : starEach [.Call (.Name "range" p2) [a] [] pos2] X.env = (false, eval (.Call (.Name "range" p2) [a] [] pos2) X.env) :: starEach [] X.env := by rfl) :
    SL X cl W (.Call (.Name "list" p) [.Call (.Name "range" p2) [a] [] pos2] [] pos) (lRng1 fa) := PE.of (pe_listRg hc hg hm (prg_1 hg2 hm2 ha na) nr) fun σ H Q p =>
  seq1 (k := fun x h1 => ofO (mRng1 x) h1) p fun φ H1 h1 x v R r P => by
    unfold mRng1 at P
    split at P
    · rename_i j
      split at P
      · rename_i hj
        cases r
        refine ⟨j, rfl, RgOk.of_le (by decide) (log24 hj.1 hj.2) (by decide) hj.1, fun l hl => P φ _ _ (Lat.new hl) (R.new hl) ?_⟩
        have := fresh_new R hl (rep_rg (K := X.K) (φ := φ) (H := H1) 0 (List.range j.toNat))
        simpa [rgV, rangeD] using this
      · exact P.elim
    · exact P.elim
theorem l_rng2 {p p2 pos2 : Pos} (hc : X.calm = true) (hg : Gl X "list") (hm : X.mg "list" = none) (hg2 : Gl X "range") (hm2 : X.mg "range" = none) (ha : SE X cl W a fa) (hb : SE X cl W b fb)
    (na : starEach [a, b] X.env = (false, eval a X.env) :: starEach [b] X.env := by rfl) (nb : starEach [b] X.env = (false, eval b X.env) :: starEach [] X.env := by rfl) (hp : (backTo pos2 (starEach [b] X.env)).any (·.1) = false := by rfl)
    (nr : starEach [.Call (.Name "range" p2) [a, b] [] pos2] X.env = (false, eval (.Call (.Name "range" p2) [a, b] [] pos2) X.env) :: starEach [] X.env := by rfl) :
    SL X cl W (.Call (.Name "list" p) [.Call (.Name "range" p2) [a, b] [] pos2] [] pos) (lRng2 fa fb) := PE.of (pe_listRg hc hg hm (prg_2 hg2 hm2 ha hb na nb hp) nr) fun σ H Q p =>
  seq2 (k := fun x y h2 => ofO (mRng2 x y) h2) p fun φ H1 h1 x y v u R rx ry P => by
    unfold mRng2 at P
    split at P
    · rename_i i j
      split at P
      · rename_i hj
        cases rx
        cases ry
        refine ⟨i, j, rfl, rfl, RgOk.of_le hj.1 (log24 hj.2.2.1 hj.2.2.2) (log24 hj.1 hj.2.1) hj.2.2.1, fun l hl => P φ _ _ (Lat.new hl) (R.new hl) ?_⟩
        have := fresh_new R hl (rep_rg (K := X.K) (φ := φ) (H := H1) i (List.range (j - i).toNat))
        simpa [rgV, rangeD] using this
      · exact P.elim
    · exact P.elim
end
end Y
end

section
set_option Elab.async false
set_option linter.all false
set_option maxRecDepth 100000
set_option maxHeartbeats 2000000
/-! YV: an own class and the names of its fields, in one structure. -/
namespace Y
open PySem PySem.Spec PyProof.Rows L2
/-- the own class c, whose objects have the fields ns -/
structure Ocl (K : PySem.W.Frag) (mg : Str → Option Value) (c : Str) (ns : List Str) : Prop where
  ex : ∃ C : Addr, mg c = some (.ref C) ∧ ObjF K c C ∧ ∀ n ∈ ns, NoAttr K C n
section
variable {X : Cx} {cl : Nat → Addr} {W : WX} {a : Expr} {f : Ev} {pos : Pos} {c : Str} {ns : List Str}
theorem s_fl (T : Ocl X.K X.mg c ns) (n : Str) (hn : n ∈ ns) (ha : SE X cl W a f) (hb : attributeBase a n X.env (eval a X.env) = eval a X.env := by rfl) : SE X cl W (.Attribute a n pos) (e1 (oFld c n) f) := by
  obtain ⟨C, _, o, h⟩ := T.ex
  exact s_fld o (h n hn) ha hb
theorem s_iO {p1 p2 : Pos} (T : Ocl X.K X.mg c ns) (hm : X.mg "isinstance" = none) (ha : SE X cl W a f) (hg : Gl X "isinstance" := by rfl) (hg2 : Gl X c := by rfl) (hd : (c == ("__debug__" : Str)) = false := by decide)
    (he : starEach [a, .Name c p2] X.env = (false, eval a X.env) :: starEach [.Name c p2] X.env := by rfl)
    (he2 : starEach [.Name c p2] X.env = (false, eval (.Name c p2) X.env) :: starEach [] X.env := by rfl)
    (hpl : (backTo pos (starEach [.Name c p2] X.env)).any (·.1) = false := by rfl) :
    SE X cl W (.Call (.Name "isinstance" p1) [a, .Name c p2] [] pos) (e1 (isO c) f) := by
  obtain ⟨C, gm, o, h⟩ := T.ex
  exact s_isO o gm ha hm hg hg2 hd he he2 hpl
theorem Ocl.mk' {K : PySem.W.Frag} {mg : Str → Option Value} {C : Addr} (gm : mg c = some (.ref C)) (o : ObjF K c C) (h : ∀ n ∈ ns, PySem.W.findIn K (.ref C) n = some none) : Ocl K mg c ns := ⟨C, gm, o, h⟩
end
end Y
end

section
set_option Elab.async false
set_option linter.all false
set_option maxRecDepth 100000
set_option maxHeartbeats 2000000
/-! YW: comprehensions with two fors. -/
namespace Y
open PySem PySem.Spec PyProof.Rows L2
/-- the inner walk, at one element of the outer one -/
def inn (c : Tv) (it1 : Iv) (g1 : Gv) (t1 : Tv) (f : Ev) (vs1 : List Nat) : Sl → Hm → Rs (List D) := fun σ h => (c σ h).bindN fun b h1 => if b = true then (it1 σ h1).bindN fun ds1 h2 => compL g1 t1 f (unset σ vs1) ds1 h2 else .ok [] h1
def comp2L (g : Gv) (m : Sl → Hm → Rs (List D)) (σ : Sl) : List D → Hm → Rs (List D)
  | [], h => .ok [] h
  | d :: ds, h => match g d σ with
    | none => .bad
    | some σ1 => (m σ1 h).bindN fun ys h1 => (comp2L g m σ ds h1).bindN fun zs h2 => .ok (ys ++ zs) h2
/-- [f for g in it if c for g1 in it1 if t1] -/
def lComp2 (it : Iv) (g : Gv) (c : Tv) (it1 : Iv) (g1 : Gv) (t1 : Tv) (f : Ev) (vs vs1 : List Nat) : Lv := fun σ h => (it σ h).bind fun ds h1 => (comp2L g (inn c it1 g1 t1 f vs1) (unset σ vs) ds h1).bind fun ys h2 => if ys.length ≤ line then .ok ys h2 else .bad
theorem bindN_ok {α β : Type} {r : Rs α} {k : α → Hm → Rs β} {b : β} {h : Hm} (e : r.bindN k = .ok b h) : ∃ a h1, r = .ok a h1 ∧ k a h1 = .ok b h := by
  cases r with
  | ok a h1 => exact ⟨a, h1, rfl, e⟩
  | ex _ _ => simp [Rs.bindN] at e
  | bad => simp [Rs.bindN] at e
theorem bindN_ex {α β : Type} {r : Rs α} {k : α → Hm → Rs β} {x : Exn} {h : Hm} (e : r.bindN k = .ex x h) : ∃ a h1, r = .ok a h1 ∧ k a h1 = .ex x h := by
  cases r with
  | ok a h1 => exact ⟨a, h1, rfl, e⟩
  | ex _ _ => simp [Rs.bindN] at e
  | bad => simp [Rs.bindN] at e
theorem compL_ne {g : Gv} {t : Tv} {f : Ev} {σ : Sl} : ∀ {ds : List D} {h : Hm} {x : Exn} {h2 : Hm}, compL g t f σ ds h ≠ .ex x h2
  | [], h, x, h2, q => by simp [compL] at q
  | d :: ds, h, x, h2, q => by
    simp only [compL] at q
    split at q
    · cases q
    · obtain ⟨c, h3, _, q⟩ := bindN_ex q
      split at q
      · obtain ⟨y, h4, _, q⟩ := bindN_ex q
        obtain ⟨ys, h5, _, q⟩ := bindN_ex q
        cases q
      · exact compL_ne q
theorem inn_ne {c : Tv} {it1 : Iv} {g1 : Gv} {t1 : Tv} {f : Ev} {vs1 : List Nat} {σ : Sl} {h : Hm} {x : Exn} {h2 : Hm} (q : inn c it1 g1 t1 f vs1 σ h = .ex x h2) : False := by
  obtain ⟨b, h3, _, q⟩ := bindN_ex (show (c σ h).bindN _ = _ from q)
  split at q
  · obtain ⟨y, h4, _, q⟩ := bindN_ex q
    exact compL_ne q
  · cases q
theorem comp2L_ne {g : Gv} {c : Tv} {it1 : Iv} {g1 : Gv} {t1 : Tv} {f : Ev} {vs1 : List Nat} {σ : Sl} : ∀ {ds : List D} {h : Hm} {x : Exn} {h2 : Hm}, comp2L g (inn c it1 g1 t1 f vs1) σ ds h ≠ .ex x h2
  | [], h, x, h2, q => by simp [comp2L] at q
  | d :: ds, h, x, h2, q => by
    simp only [comp2L] at q
    split at q
    · cases q
    · obtain ⟨c, h3, _, q⟩ := bindN_ex q
      obtain ⟨ys, h5, _, q⟩ := bindN_ex q
      cases q
theorem SR.wk {K : PySem.W.Frag} {φ φ' : List Addr} {H H' : Hp} {st : Sl} {σ : L2.St} (x : SR K φ H st σ) (l : Wk φ H φ' H') : SR K φ' H' st σ :=
  ⟨x.len, fun i d e => let ⟨v, h1, h2⟩ := x.get i d e; ⟨v, h1, Rep.mono l.pre l.per _ _ h2⟩⟩
theorem Wk.wr {φ φ' : List Addr} {H H' : Hp} {D : Addr} {u v : HO} (a : Wk φ H φ' H') (e : H' D = some u) (m : mutO u = true) : Wk φ H φ' (upd H' D v) := ⟨a.pre, a.per.trans (Per.wr e m)⟩
section
variable {X : Cx} {cl : Nat → Addr} {W : WX} {elt tg iter tg1 iter1 : Expr} {ifs ifs1 : List Expr} {it it1 : Iv} {g g1 : Gv} {is is1 vs1 : List Nat} {t t1 : Tv} {f : Ev} {scope : Scope} {own : List (Str × Nat)} {pos : Pos}
theorem comp2_go (his : ∀ i ∈ is, i ∈ own.map (·.2)) (his1 : ∀ i ∈ is1, i ∈ vs1) {σ : L2.St} {H : Hp} {Q : VK} (p : tG X.K cl W (Fresh X.K) (lComp2 it g t it1 g1 t1 f (own.map (·.2)) vs1) σ H Q) :
    tLc2 (tI X.K cl W it) (tGv X.K g is) (tG X.K cl W0 RBool t) (tI X.K cl W0 it1) (tGv X.K g1 is1) (tG X.K cl W0 RBool t1) (tG X.K cl W0 (RR X.K) f) (own.map (·.2)) vs1 σ H Q := by
  obtain ⟨φ, st, h0, S, R0, P⟩ := p
  refine ⟨φ, st, h0, S, R0, ?_⟩
  unfold lComp2 at P
  cases e : it st h0 with
  | bad => simp only [e, Rs.bind] at P; exact P
  | ex ex1 h1 => simp only [e, Rs.bind] at P; exact P
  | ok ds h1 =>
    simp only [e, Rs.bind] at P
    intro φ1 H1 J l1 r1 dv D hD
    generalize hM : inn t it1 g1 t1 f vs1 = M at P
    cases e1 : comp2L g M (unset st (own.map (·.2))) ds h1 with
    | bad => rw [e1] at P; exact P.elim
    | ex ex1 h2 => subst hM; exact (comp2L_ne e1).elim
    | ok res hf =>
      rw [e1] at P
      simp only at P
      split at P
      · rename_i hlen
        have nD1 : D ∉ φ1 := r1.notin hD
        have nD0 : H D = none := l1.gone nD1 hD
        refine ⟨fun i m H2 => m = ds.length - i ∧ i ≤ ds.length ∧ ∃ φ2 h2 acc accV ys, Lat φ1 H1 φ2 H2 ∧ HR X.K φ2 H2 h2 ∧ D ∉ φ2 ∧ H2 D = some (.lst accV) ∧ RepL X.K φ2 H2 acc accV ∧ comp2L g M (unset st (own.map (·.2))) (ds.drop i) h2 = .ok ys hf ∧ acc ++ ys = res,
          ⟨_, rfl, Nat.zero_le _, φ1, h1, [], [], res, Lat.new hD, r1.new hD, nD1, upd_same, .nil, e1, rfl⟩, ?_⟩
        rintro i m H2 ⟨rfl, hi, φ2, h2, acc, accV, ys, l2, r2, nD2, eD, ra, ec, er⟩
        obtain ⟨d1, d2⟩ := dv φ2 H2 h2 l2.wk r2
        by_cases lt : i < ds.length
        · obtain ⟨go, yl⟩ := d1 i ds[i] (List.getElem?_eq_getElem lt)
          refine .inr ⟨go, fun H' => ∃ φ2 h2 acc accV ys, Lat φ1 H1 φ2 H' ∧ HR X.K φ2 H' h2 ∧ D ∉ φ2 ∧ H' D = some (.lst accV) ∧ RepL X.K φ2 H' acc accV ∧ comp2L g M (unset st (own.map (·.2))) (ds.drop (i + 1)) h2 = .ok ys hf ∧ acc ++ ys = res,
            fun H' n => ⟨ds.length - (i + 1), by omega, rfl, lt, n⟩, fun x H3 y => ?_⟩
          obtain ⟨l3, r3, rx⟩ := yl x H3 y
          rw [List.drop_eq_getElem_cons lt] at ec
          simp only [comp2L] at ec
          cases e2 : g ds[i] (unset st (own.map (·.2))) with
          | none => rw [e2] at ec; cases ec
          | some st3 =>
            rw [e2] at ec
            have L3 := l2.trans l3
            have S3 : SR X.K φ2 H3 (unset st (own.map (·.2))) (wipe σ (own.map (·.2))) := (S.mono (l1.trans L3)).unset _
            refine ⟨φ2, _, ds[i], st3, S3, rx, e2, fun τ S4 ch => ⟨by rw [ch.wipe his, wipe_wipe], φ2, st3, h2, S4, r3, ?_⟩⟩
            simp only at ec
            obtain ⟨ysI, h7, eM, ec⟩ := bindN_ok ec
            obtain ⟨zs, h8, eZ, ec⟩ := bindN_ok ec
            cases ec
            subst hM
            obtain ⟨c1, h4, e3, eM⟩ := bindN_ok (show (t st3 h2).bindN _ = _ from eM)
            rw [e3]
            intro φ4 H4 c2 l4 r4 ecc
            cases (show c1 = c2 from ecc)
            have L4 := L3.trans l4
            have eD4 : H4 D = some (.lst accV) := (l3.trans l4).keep D _ eD nD2
            have nD4 : D ∉ φ4 := (l3.trans l4).out eD nD2
            have ra4 := RepL.mono (l3.trans l4).pre (l3.trans l4).per _ _ ra
            cases c1 with
            | false =>
              rw [if_neg Bool.false_ne_true]
              rw [if_neg Bool.false_ne_true] at eM
              cases eM
              exact ⟨φ4, _, acc, accV, zs, L4, r4, nD4, eD4, ra4, eZ, by simpa using er⟩
            | true =>
              rw [if_pos rfl]
              rw [if_pos rfl] at eM
              obtain ⟨ds1, h5, e5, eM⟩ := bindN_ok eM
              refine ⟨φ4, st3, h4, S4.mono l4, r4, ?_⟩
              rw [e5]
              intro φ5 H5 J1 l5 r5 dv1
              have L5 := L4.trans l5
              have eD5 : H5 D = some (.lst accV) := l5.keep D _ eD4 nD4
              have nD5 : D ∉ φ5 := l5.out eD4 nD4
              have ra5 := RepL.mono l5.pre l5.per _ _ ra4
              have S5 : SR X.K φ5 H5 st3 τ := (S4.mono l4).mono l5
              refine ⟨fun j m H6 => m = ds1.length - j ∧ j ≤ ds1.length ∧ ∃ φ6 h6 acc6 accV6 ys6, Lat φ1 H1 φ6 H6 ∧ Wk φ5 H5 φ6 H6 ∧ HR X.K φ6 H6 h6 ∧ D ∉ φ6 ∧ H6 D = some (.lst accV6) ∧ RepL X.K φ6 H6 acc6 accV6 ∧ compL g1 t1 f (unset st3 vs1) (ds1.drop j) h6 = .ok ys6 h7 ∧ acc6 ++ ys6 = acc ++ ysI,
                ⟨_, rfl, Nat.zero_le _, φ5, h5, acc, accV, ysI, L5, Wk.refl _ _, r5, nD5, eD5, ra5, eM, rfl⟩, ?_⟩
              rintro j m H6 ⟨rfl, hj, φ6, h6, acc6, accV6, ys6, L6, w6, r6, nD6, eD6, ra6, ec6, er6⟩
              obtain ⟨d3, d4⟩ := dv1 φ6 H6 h6 w6 r6
              by_cases lt1 : j < ds1.length
              · obtain ⟨go1, yl1⟩ := d3 j ds1[j] (List.getElem?_eq_getElem lt1)
                refine .inr ⟨go1, fun H6 => ∃ φ6 h6 acc6 accV6 ys6, Lat φ1 H1 φ6 H6 ∧ Wk φ5 H5 φ6 H6 ∧ HR X.K φ6 H6 h6 ∧ D ∉ φ6 ∧ H6 D = some (.lst accV6) ∧ RepL X.K φ6 H6 acc6 accV6 ∧ compL g1 t1 f (unset st3 vs1) (ds1.drop (j + 1)) h6 = .ok ys6 h7 ∧ acc6 ++ ys6 = acc ++ ysI,
                  fun H' n => ⟨ds1.length - (j + 1), by omega, rfl, lt1, n⟩, fun x1 H7 y1 => ?_⟩
                obtain ⟨l7, r7, rx1⟩ := yl1 x1 H7 y1
                rw [List.drop_eq_getElem_cons lt1] at ec6
                simp only [compL] at ec6
                cases e7 : g1 ds1[j] (unset st3 vs1) with
                | none => rw [e7] at ec6; cases ec6
                | some st7 =>
                  rw [e7] at ec6
                  simp only at ec6
                  have S7 : SR X.K φ6 H7 (unset st3 vs1) (wipe τ vs1) := (S5.wk (w6.trans l7.wk)).unset _
                  refine ⟨φ6, _, ds1[j], st7, S7, rx1, e7, fun τ1 S8 ch1 => ⟨by rw [ch1.wipe his1, wipe_wipe], φ6, st7, h6, S8, r7, ?_⟩⟩
                  obtain ⟨c3, h9, e9, ec6⟩ := bindN_ok ec6
                  rw [e9]
                  intro φ9 H9 c4 l9 r9 ecc1
                  cases (show c3 = c4 from ecc1)
                  have l79 := l7.trans l9
                  have eD9 : H9 D = some (.lst accV6) := l79.keep D _ eD6 nD6
                  have nD9 : D ∉ φ9 := l79.out eD6 nD6
                  have ra9 := RepL.mono l79.pre l79.per _ _ ra6
                  cases c3 with
                  | false =>
                    rw [if_neg Bool.false_ne_true]
                    rw [if_neg Bool.false_ne_true] at ec6
                    exact ⟨φ9, h9, acc6, accV6, ys6, L6.trans l79, w6.trans l79.wk, r9, nD9, eD9, ra9, ec6, er6⟩
                  | true =>
                    rw [if_pos rfl]
                    rw [if_pos rfl] at ec6
                    obtain ⟨y2, h10, e10, ec6⟩ := bindN_ok ec6
                    obtain ⟨ys7, h11, e11, ec6⟩ := bindN_ok ec6
                    cases ec6
                    refine ⟨φ9, st7, h9, S8.mono l9, r9, ?_⟩
                    rw [e10]
                    intro φa Ha yv la ra' ry
                    have eDa : Ha D = some (.lst accV6) := la.keep D _ eD9 nD9
                    have raa := RepL.mono la.pre la.per _ _ ra9
                    refine ⟨accV6, eDa, ?_, φa, h10, acc6 ++ [y2], accV6 ++ [yv], ys7, Lat.tmp ((L6.trans l79).trans la) hD eDa rfl, ((w6.trans l79.wk).trans la.wk).wr eDa rfl, ra'.out (la.out eD9 nD9) eDa rfl, la.out eD9 nD9, upd_same, ?_, e11, by simp [← er6]⟩
                    · have h1 := congrArg List.length er
                      have h2 := congrArg List.length er6
                      simp at h1 h2
                      rw [← ra6.length, ← line_eq]
                      omega
                    · exact RepL.mono (List.prefix_refl _) (Per.wr eDa rfl) _ _ (raa.append (.cons ry .nil))
              · have ej : j = ds1.length := by omega
                subst ej
                rw [List.drop_length] at ec6
                simp only [compL, Rs.ok.injEq] at ec6
                obtain ⟨rfl, rfl⟩ := ec6
                rw [List.append_nil] at er6
                subst er6
                exact .inl ⟨d4, φ6, _, _, accV6, zs, L6, r6, nD6, eD6, ra6, eZ, by rw [List.append_assoc]; exact er⟩
        · have ei : i = ds.length := by omega
          subst ei
          rw [List.drop_length] at ec
          simp only [comp2L, Rs.ok.injEq] at ec
          obtain ⟨rfl, rfl⟩ := ec
          rw [List.append_nil] at er
          subst er
          exact .inl ⟨d2, P φ2 H2 _ (l1.trans l2) r2 ⟨D, accV, rfl, nD0, nD2, eD, ra⟩⟩
      · exact P.elim
theorem l_comp2 {k : Nat} (c0 : Cs k X) (hi : SI X cl W tg iter it) (ok : BlkOk X.N X.env.scope scope own) (his : ∀ i ∈ is, i ∈ own.map (·.2)) (hv : ∀ i ∈ vs1, i ∈ own.map (·.2)) (his1 : ∀ i ∈ is1, i ∈ vs1)
    (hg : ∀ (s : Shared) (H : Hp) (C : Addr) (cc : List (Str × Addr)) (fp : List Addr), SG (X.blk s H scope (compEnvC scope cc C X.env) fp) tg g is)
    (ht : ∀ (s : Shared) (H : Hp) (C : Addr) (cc : List (Str × Addr)) (fp : List Addr), STs (X.blk s H scope (compEnvC scope cc C X.env) fp) cl W0 ifs t)
    (hi1 : ∀ (s : Shared) (H : Hp) (C : Addr) (cc : List (Str × Addr)) (fp : List Addr), SI (X.blk s H scope (compEnvC scope cc C X.env) fp) cl W0 tg1 iter1 it1)
    (hg1 : ∀ (s : Shared) (H : Hp) (C : Addr) (cc : List (Str × Addr)) (fp : List Addr), SG (X.blk s H scope (compEnvC scope cc C X.env) fp) tg1 g1 is1)
    (ht1 : ∀ (s : Shared) (H : Hp) (C : Addr) (cc : List (Str × Addr)) (fp : List Addr), STs (X.blk s H scope (compEnvC scope cc C X.env) fp) cl W0 ifs1 t1)
    (he : ∀ (s : Shared) (H : Hp) (C : Addr) (cc : List (Str × Addr)) (fp : List Addr), SE (X.blk s H scope (compEnvC scope cc C X.env) fp) cl W0 elt f) (hs : ∀ x, foldedSetIterable iter X.env x = pure x := by intro _; rfl) (hs1 : ∀ env x, foldedSetIterable iter1 env x = pure x := by intro _ _; rfl) :
    SL X cl W (.ListComp elt [⟨tg, iter, ifs, 0⟩, ⟨tg1, iter1, ifs1, 0⟩] scope pos) (lComp2 it g t it1 g1 t1 f (own.map (·.2)) vs1) := PE.of (pe_lc2 c0.calm c0.nd hi ok hv hg ht hi1 hg1 ht1 he hs hs1) fun σ H Q p => comp2_go his his1 p
theorem s_setComp2 {k i : Nat} {y : Str} {py spos : Pos} (c0 : Cs k X) (hy : X.N[i]? = some y) (hyl : X.env.scope.names.lookup y = some .local)
    (hsw : swapsWith (.ListComp elt [⟨tg, iter, ifs, 0⟩, ⟨tg1, iter1, ifs1, 0⟩] scope pos) (some (.Name y py)) spos.line X.env = pure true) (hi : SI X cl W tg iter it) (ok : BlkOk X.N X.env.scope scope own) (his : ∀ i ∈ is, i ∈ own.map (·.2)) (hv : ∀ i ∈ vs1, i ∈ own.map (·.2)) (his1 : ∀ i ∈ is1, i ∈ vs1)
    (hg : ∀ (s : Shared) (H : Hp) (C : Addr) (cc : List (Str × Addr)) (fp : List Addr), SG (X.blk s H scope (compEnvC scope cc C X.env) fp) tg g is)
    (ht : ∀ (s : Shared) (H : Hp) (C : Addr) (cc : List (Str × Addr)) (fp : List Addr), STs (X.blk s H scope (compEnvC scope cc C X.env) fp) cl W0 ifs t)
    (hi1 : ∀ (s : Shared) (H : Hp) (C : Addr) (cc : List (Str × Addr)) (fp : List Addr), SI (X.blk s H scope (compEnvC scope cc C X.env) fp) cl W0 tg1 iter1 it1)
    (hg1 : ∀ (s : Shared) (H : Hp) (C : Addr) (cc : List (Str × Addr)) (fp : List Addr), SG (X.blk s H scope (compEnvC scope cc C X.env) fp) tg1 g1 is1)
    (ht1 : ∀ (s : Shared) (H : Hp) (C : Addr) (cc : List (Str × Addr)) (fp : List Addr), STs (X.blk s H scope (compEnvC scope cc C X.env) fp) cl W0 ifs1 t1)
    (he : ∀ (s : Shared) (H : Hp) (C : Addr) (cc : List (Str × Addr)) (fp : List Addr), SE (X.blk s H scope (compEnvC scope cc C X.env) fp) cl W0 elt f) (hs : ∀ x, foldedSetIterable iter X.env x = pure x := by intro _; rfl) (hs1 : ∀ env x, foldedSetIterable iter1 env x = pure x := by intro _ _; rfl) :
    SS X cl W (.Assign [.Name y py] (.ListComp elt [⟨tg, iter, ifs, 0⟩, ⟨tg1, iter1, ifs1, 0⟩] scope pos) spos) (sAsg (gN i) (eFrz (lComp2 it g t it1 g1 t1 f (own.map (·.2)) vs1))) := by
  refine ⟨fun pins s σ H D I p => ?_⟩
  have q := (ps_setLc2 (g := tGv X.K g is) (tt := tG X.K cl W0 RBool t) (g1 := tGv X.K g1 is1) (tt1 := tG X.K cl W0 RBool t1) (wi1 := tI X.K cl W0 it1) (te := tG X.K cl W0 (RR X.K) f) c0.calm c0.nd hy hyl hsw hi ok hv hg ht hi1 hg1 ht1 he hs hs1).run pins s σ H { D with nx := fun τ H1 => ∃ a vs, τ = σ.set i (some (.ref a)) ∧ H1 a = some (.lst vs) ∧ ∀ o, D.nx τ (upd H1 a (.frz o (.lst vs))) } I (by
    refine comp2_go (W := W) (cl := cl) (t := t) (f := f) his his1 ?_
    obtain ⟨φ, st, h0, S, R0, P⟩ := p
    refine ⟨φ, st, h0, S, R0, ?_⟩
    simp only [sAsg, eFrz] at P
    cases e : lComp2 it g t it1 g1 t1 f (own.map (·.2)) vs1 st h0 with
    | bad => simp only [e, Rs.bind, Rs.out] at P; exact P
    | ex ex1 h1 =>
      simp only [e, Rs.bind, Rs.out] at P
      exact fun φ' H' c d l r er => P φ' H' c d σ l r (S.mono l) er
    | ok ds h1 =>
      simp only [e, Rs.bind, gN, Rs.out, outO] at P
      rintro φ' H' v l r ⟨a, vs, rfl, n0, nn, ea, rr⟩
      refine ⟨a, vs, rfl, ea, fun o => ?_⟩
      obtain ⟨l2, x2, y2⟩ := Fresh.frz (o := o) l n0 r nn ea rr
      exact P φ' _ _ l2 x2 ((S.mono l2).set i y2))
  refine thn q fun fl s1 h1 => ?_
  cases fl with
  | next =>
    obtain ⟨σ', H', I', a, vs, rfl, e1, e2⟩ := h1
    obtain ⟨o, I2⟩ := inv_frz I' e1
    exact ⟨_, _, I2, e2 o⟩
  | brk => exact h1
  | cont => exact h1
  | ret u => exact h1
end
end Y
end

section
set_option Elab.async false
set_option linter.all false
set_option maxRecDepth 100000
set_option maxHeartbeats 2000000
/-! YX: o.pop(i), o a list of one's own, as an expression. -/
namespace Y
open PySem PySem.Spec PyProof.Rows L2
def popD (h : Hm) : D → D → Option (D × Hm)
  | .loc p, .int i => match h[p]? with
    | some (.lst xs) => if 0 ≤ i ∧ i < 16777216 then (match xs[i.toNat]? with
      | some y => some (y, h.set p (.lst (xs.eraseIdx i.toNat)))
      | none => none) else none
    | _ => none
  | _, _ => none
def ePop (f g : Ev) : Ev := fun σ h => (f σ h).bind fun o h1 => if isLst h1 o = true then (g σ h1).bind fun i h2 => match popD h2 o i with
  | some (y, h3) => .ok y h3
  | none => .bad else .bad
theorem RepL.eraseIdx {K : PySem.W.Frag} {φ : List Addr} {H : Hp} : ∀ {ds : List D} {vs : List V} (i : Nat), RepL K φ H ds vs → RepL K φ H (ds.eraseIdx i) (vs.eraseIdx i)
  | [], _, _, r => by cases r; exact .nil
  | d :: ds, _, 0, r => by cases r with | cons _ q => exact q
  | d :: ds, _, i + 1, r => by cases r with | cons h q => exact .cons h (RepL.eraseIdx i q)
section
variable {X : Cx} {cl : Nat → Addr} {W : WX} {o e : Expr} {f g : Ev}
theorem s_pop {p1 p2 : Pos} (ho : SE X cl W o f) (he : SE X cl W e g) (hpe : ∀ {to : TE} {t : TA}, PE X o to → PA X [e] t → PE X (.Call (.Attribute o "pop" p1) [e] [] p2) (tBM X.K "list" rPopAt to t))
    (hs1 : starEach [e] X.env = (false, eval e X.env) :: starEach [] X.env := by rfl) :
    SE X cl W (.Call (.Attribute o "pop" p1) [e] [] p2) (ePop f g) := PE.of (hpe ho (pa_cons he pa_nil hs1)) fun σ H Q p => by
  obtain ⟨φ, st, h0, S, R0, P⟩ := p
  refine ⟨φ, st, h0, S, R0, P.seq fun x h1 φ1 H1 v l R r P => ?_⟩
  split at P
  · rename_i hl
    cases r <;> simp only [isLst] at hl <;> try (cases hl; done)
    rename_i n ad hk
    obtain ⟨ob, h3, h4⟩ := R.at hk
    refine ⟨?_, φ1, st, h1, S.mono l, R, P.seq fun y h2 φ3 H3 u l3 R3 r3 P => ?_⟩
    · rw [h3] at hl
      cases h4 with
      | lst hh _ => exact .inl ⟨rfl, _, .of hh⟩
      | dct hh _ => simp at hl
      | dtu hh _ => simp at hl
    · cases e3 : popD h2 (.loc n) y with
      | none => rw [e3] at P; exact P.elim
      | some z =>
        obtain ⟨y2, h5⟩ := z
        rw [e3] at P
        simp only at P
        have hk4 := pre_get l3.pre hk
        obtain ⟨ob2, h6, h7⟩ := R3.at hk4
        unfold popD at e3
        split at e3
        · rename_i p' i ep
          cases ep
          simp only [h6] at e3
          split at e3
          · rename_i xs e9
            cases e9
            split at e3
            · rename_i hi
              split at e3
              · rename_i y3 e10
                cases e3
                cases r3
                cases h7 with
                | lst hh rr =>
                  rename_i vs
                  have mem : ad ∈ φ3 := List.mem_of_getElem? hk4
                  obtain ⟨w3, q1, q2⟩ := rr.get e10
                  have hlt := (List.getElem?_eq_some_iff.mp e10).1
                  have hlv : vs.length = xs.length := rr.length.symm
                  refine ⟨ad, vs, i, i.toNat, w3, rfl, rfl, hh, by omega, by omega, seqIndex_of hi.1 (by rw [hlv]; omega), q1, ?_⟩
                  refine P φ3 _ _ (Lat.wr hh rfl mem) (R3.wr hk4 (.lst upd_same ?_)) ?_
                  · exact RepL.mono (List.prefix_refl _) (Per.wr hh rfl) _ _ (rr.eraseIdx _)
                  · exact Rep.mono (List.prefix_refl _) (Per.wr hh rfl) _ _ q2
              · cases e3
            · cases e3
          · cases e3
        · cases e3
  · exact P.elim
end
end Y
end

section
set_option Elab.async false
set_option linter.all false
set_option maxRecDepth 100000
set_option maxHeartbeats 2000000
/-! YZ: {k: v for ..}, keys ints and texts. -/
namespace Y
open PySem PySem.Spec PyProof.Rows L2
def dcL (g : Gv) (c : Tv) (k v : Ev) (σ : Sl) : List D → List (Key × D) → Hm → Rs (List (Key × D))
  | [], a, h => .ok a h
  | d :: ds, a, h => match g d σ with
    | none => .bad
    | some σ1 => (c σ1 h).bindN fun t h1 => if t = true then (k σ1 h1).bindN fun y h2 => (v σ1 h2).bindN fun z h3 => match keyOf y with
      | some ky => if a.length < line then dcL g c k v σ ds (setK a ky z) h3 else .bad
      | none => .bad else dcL g c k v σ ds a h1
def eDc (it : Iv) (g : Gv) (c : Tv) (k v : Ev) (vs : List Nat) : Ev := fun σ h => (it σ h).bind fun ds h1 => (dcL g c k v (unset σ vs) ds [] h1).bind fun a h2 => .ok (.loc h2.length) (h2 ++ [.dct a])
theorem dcL_ne {g : Gv} {t : Tv} {k v : Ev} {σ : Sl} : ∀ {ds : List D} {a : List (Key × D)} {h : Hm} {x : Exn} {h2 : Hm}, dcL g t k v σ ds a h ≠ .ex x h2
  | [], a, h, x, h2, q => by simp [dcL] at q
  | d :: ds, a, h, x, h2, q => by
    simp only [dcL] at q
    split at q
    · cases q
    · obtain ⟨c, h3, _, q⟩ := bindN_ex q
      split at q
      · obtain ⟨y, h4, _, q⟩ := bindN_ex q
        obtain ⟨z, h5, _, q⟩ := bindN_ex q
        split at q
        · split at q
          · exact dcL_ne q
          · cases q
        · cases q
      · exact dcL_ne q
section
variable {X : Cx} {cl : Nat → Addr} {W : WX} {kx vx tg iter : Expr} {ifs : List Expr} {it : Iv} {g : Gv} {is : List Nat} {t : Tv} {fk fv : Ev} {scope : Scope} {own : List (Str × Nat)} {pos : Pos}
theorem dc_go (his : ∀ i ∈ is, i ∈ own.map (·.2)) {σ : L2.St} {H : Hp} {Q : VK} (p : tG X.K cl W (RR X.K) (eDc it g t fk fv (own.map (·.2))) σ H Q) :
    tDc (tI X.K cl W it) (tGv X.K g is) (tG X.K cl W0 RBool t) (tG X.K cl W0 (RR X.K) fk) (tG X.K cl W0 (RR X.K) fv) (own.map (·.2)) σ H Q := by
  obtain ⟨φ, st, h0, S, R0, P⟩ := p
  refine ⟨φ, st, h0, S, R0, ?_⟩
  unfold eDc at P
  cases e : it st h0 with
  | bad => simp only [e, Rs.bind] at P; exact P
  | ex ex1 h1 => simp only [e, Rs.bind] at P; exact P
  | ok ds h1 =>
    simp only [e, Rs.bind] at P
    intro φ1 H1 J l1 r1 dv D hD
    cases e1 : dcL g t fk fv (unset st (own.map (·.2))) ds [] h1 with
    | bad => rw [e1] at P; exact P.elim
    | ex ex1 h2 => exact (dcL_ne e1).elim
    | ok res hf =>
      rw [e1] at P
      simp only at P
      have nD1 : D ∉ φ1 := r1.notin hD
      have nD0 : H D = none := l1.gone nD1 hD
      refine ⟨fun i m H2 => m = ds.length - i ∧ i ≤ ds.length ∧ ∃ φ2 h2 acc accV, Lat φ1 H1 φ2 H2 ∧ HR X.K φ2 H2 h2 ∧ D ∉ φ2 ∧ H2 D = some (.dK accV) ∧ RepK X.K φ2 H2 acc accV ∧ dcL g t fk fv (unset st (own.map (·.2))) (ds.drop i) acc h2 = .ok res hf,
        ⟨_, rfl, Nat.zero_le _, φ1, h1, [], [], Lat.new hD, r1.new hD, nD1, upd_same, .nil, e1⟩, ?_⟩
      rintro i m H2 ⟨rfl, hi, φ2, h2, acc, accV, l2, r2, nD2, eD, ra, ec⟩
      obtain ⟨d1, d2⟩ := dv φ2 H2 h2 l2.wk r2
      by_cases lt : i < ds.length
      · obtain ⟨go, yl⟩ := d1 i ds[i] (List.getElem?_eq_getElem lt)
        refine .inr ⟨go, fun H' => ∃ φ2 h2 acc accV, Lat φ1 H1 φ2 H' ∧ HR X.K φ2 H' h2 ∧ D ∉ φ2 ∧ H' D = some (.dK accV) ∧ RepK X.K φ2 H' acc accV ∧ dcL g t fk fv (unset st (own.map (·.2))) (ds.drop (i + 1)) acc h2 = .ok res hf,
          fun H' n => ⟨ds.length - (i + 1), by omega, rfl, lt, n⟩, fun x H3 y => ?_⟩
        obtain ⟨l3, r3, rx⟩ := yl x H3 y
        rw [List.drop_eq_getElem_cons lt] at ec
        simp only [dcL] at ec
        cases e2 : g ds[i] (unset st (own.map (·.2))) with
        | none => rw [e2] at ec; cases ec
        | some st3 =>
          rw [e2] at ec
          have L3 := l2.trans l3
          have S3 : SR X.K φ2 H3 (unset st (own.map (·.2))) (wipe σ (own.map (·.2))) := (S.mono (l1.trans L3)).unset _
          refine ⟨φ2, _, ds[i], st3, S3, rx, e2, fun τ S4 ch => ⟨by rw [ch.wipe his, wipe_wipe], φ2, st3, h2, S4, r3, ?_⟩⟩
          simp only at ec
          obtain ⟨c1, h4, e3, ec⟩ := bindN_ok ec
          rw [e3]
          intro φ4 H4 c2 l4 r4 ecc
          cases (show c1 = c2 from ecc)
          have l34 := l3.trans l4
          have eD4 : H4 D = some (.dK accV) := l34.keep D _ eD nD2
          have nD4 : D ∉ φ4 := l34.out eD nD2
          have ra4 := ra.mono l34.pre l34.per
          cases c1 with
          | false =>
            rw [if_neg Bool.false_ne_true]
            rw [if_neg Bool.false_ne_true] at ec
            exact ⟨φ4, h4, acc, accV, L3.trans l4, r4, nD4, eD4, ra4, ec⟩
          | true =>
            rw [if_pos rfl]
            rw [if_pos rfl] at ec
            obtain ⟨y1, h5, e5, ec⟩ := bindN_ok ec
            obtain ⟨z1, h6, e6, ec⟩ := bindN_ok ec
            refine ⟨φ4, st3, h4, S4.mono l4, r4, ?_⟩
            rw [e5]
            intro φ5 H5 yv l5 r5 ry
            refine ⟨φ5, st3, h5, (S4.mono l4).mono l5, r5, ?_⟩
            rw [e6]
            intro φ6 H6 zv l6 r6 rz
            have l56 := l5.trans l6
            have eD6 : H6 D = some (.dK accV) := l56.keep D _ eD4 nD4
            have nD6 : D ∉ φ6 := l56.out eD4 nD4
            have ra6 := ra4.mono l56.pre l56.per
            split at ec
            · rename_i ky ek
              split at ec
              · rename_i hl
                obtain rfl := key_of_rep ry ek
                refine ⟨accV, ky, rfl, eD6, by rw [← Paired.length ra6, ← line_eq]; exact hl, φ6, h6, _, _, Lat.tmp ((L3.trans l4).trans l56) hD eD6 rfl, r6.out nD6 eD6 rfl, nD6, upd_same, ?_, ec⟩
                exact (ra6.set ky rz).mono (List.prefix_refl _) (Per.wr eD6 rfl)
              · cases ec
            · cases ec
      · have ei : i = ds.length := by omega
        subst ei
        rw [List.drop_length] at ec
        simp only [dcL, Rs.ok.injEq] at ec
        obtain ⟨rfl, rfl⟩ := ec
        have L := l1.trans l2
        refine .inl ⟨d2, P (φ2 ++ [D]) _ _ ⟨L.pre.trans (List.prefix_append _ _), L.per, L.keep, fun b m => ?_⟩ (r2.add nD2 (.dct eD (ra.mono (List.prefix_append _ _) (Per.refl _)))) (.loc ?_)⟩
        · rcases List.mem_append.mp m with m | m
          · exact L.fresh b m
          · simp at m
            subst m
            exact .inr nD0
        · rw [List.getElem?_append_right (by rw [r2.len]; exact Nat.le_refl _)]
          simp [r2.len]
theorem s_dc {k : Nat} (c0 : Cs k X) (hi : SI X cl W tg iter it) (ok : BlkOk X.N X.env.scope scope own) (his : ∀ i ∈ is, i ∈ own.map (·.2))
    (hg : ∀ (s : Shared) (H : Hp) (C : Addr) (cc : List (Str × Addr)) (fp : List Addr), SG (X.blk s H scope (compEnvC scope cc C X.env) fp) tg g is)
    (ht : ∀ (s : Shared) (H : Hp) (C : Addr) (cc : List (Str × Addr)) (fp : List Addr), STs (X.blk s H scope (compEnvC scope cc C X.env) fp) cl W0 ifs t)
    (hk : ∀ (s : Shared) (H : Hp) (C : Addr) (cc : List (Str × Addr)) (fp : List Addr), SE (X.blk s H scope (compEnvC scope cc C X.env) fp) cl W0 kx fk)
    (he : ∀ (s : Shared) (H : Hp) (C : Addr) (cc : List (Str × Addr)) (fp : List Addr), SE (X.blk s H scope (compEnvC scope cc C X.env) fp) cl W0 vx fv) (hs : ∀ x, foldedSetIterable iter X.env x = pure x := by intro _; rfl) :
    SE X cl W (.DictComp kx vx [⟨tg, iter, ifs, 0⟩] scope pos) (eDc it g t fk fv (own.map (·.2))) := PE.of (pe_dc c0.calm c0.nd hi ok hg ht hk he hs) fun σ H Q p => dc_go his p
end
end Y
end

section
set_option Elab.async false
set_option linter.all false
set_option maxRecDepth 100000
set_option maxHeartbeats 2000000
/-! YMk: an own class is made: run_make over FnG. -/
namespace Y
open PySem PySem.Spec PyProof.Rows L2
section
variable {X : Cx} {k : Nat} {f C : Addr} {fd : FuncData} {ps : List Str} {E : XK}
theorem run_makeG {W : WX} {sp : Sp} {pins : List (Addr × Obj)} {σ : L2.St} {H : Hp} {s : Shared} {Q : VK} {us : List Value} {vs : List V} (M : Mk X.K C f) (F : FnG X.prog X.w X.K X.mg X.base k f fd ps sp) (c : Cs (k + 1) X) (tk : Takes X W) (hb : Binds X.K fd ps [])
    (I : Inv X pins σ H s) (r : Vals vs us)
    (h : ∀ x dx, H x = none → H dx = none → dx ≠ x → sp (.ref x :: vs) (upd (upd H dx (.own x)) x (.ins C dx [])) (fun v H2 => v = .non ∧ Q (.ref x) H2) fun c d H' => W c d σ H') :
    wpAny (model X.prog X.w) X.A (call (.ref C) us) (EP X pins σ Q) X.xe s := by
  have hq := h (s.heap.objs.size + 1) s.heap.objs.size (I.hok.fresh (Nat.le_succ _)) (I.hok.fresh (Nat.le_refl _)) (Nat.ne_of_lt (Nat.lt_succ_self _))
  have I2 := Inv.made (C := C) I
  have r2 : Vals (V.ref (s.heap.objs.size + 1) :: vs) (Value.ref (s.heap.objs.size + 1) :: us) := .cons rfl r
  have hl : (Value.ref (s.heap.objs.size + 1) :: us).length = ps.length := by
    rw [← r2.length]; exact F.len _ _ _ _ hq
  have b := hb _ (Value.ref (s.heap.objs.size + 1) :: us) I2.kIn (by rw [List.append_nil]; exact hl)
  rw [List.append_nil] at b
  refine wpAny_call (make_map (f := f) I.kIn M.makes M.init (beq_iff_eq.mp M.fn) (codeAny_mono (F.run _ X.stack _ _ ⟨Value.ref (s.heap.objs.size + 1) :: us, []⟩ _ _ _ _ (c.room.make C us []) c.gd
    (I2.env0.make C us []) b r2 hq) fun r s' hq' => ?_))
  cases r with
  | error e => exact passAt tk σ pins _ _ e s' I2 hq'
  | ok fl =>
    cases fl with
    | ret u =>
      obtain ⟨v, H', I3, rv, ev, q3⟩ := I2.after hq'
      subst ev
      exact ⟨rv, ⟨V.ref (s.heap.objs.size + 1), H', I3, rfl, q3⟩⟩
    | next => exact False.elim hq'
    | brk => exact False.elim hq'
    | cont => exact False.elim hq'
theorem pe_makeG {W : WX} {sp : Sp} {x : Str} {p pos : Pos} {e : Expr} {es : List Expr} {t : TA} (M : Mk X.K C f) (F : FnG X.prog X.w X.K X.mg X.base k f fd ps sp) (c : Cs (k + 1) X) (tk : Takes X W) (hb : Binds X.K fd ps []) (hg : Gl X x) (hm : X.mg x = some (.ref C))
    (ha : PA X (e :: es) t) (hdb : (x == ("__debug__" : Str)) = false := by decide) (he : starEach (e :: es) X.env = (false, eval e X.env) :: starEach es X.env := by rfl) (hpl : (backTo pos (starEach es X.env)).any (·.1) = false := by rfl) :
    PE X (.Call (.Name x p) (e :: es) [] pos) (fun σ H Q => t σ H fun vs H1 => ∀ x dx, H1 x = none → H1 dx = none → dx ≠ x → sp (.ref x :: vs) (upd (upd H1 dx (.own x)) x (.ins C dx [])) (fun v H2 => v = .non ∧ Q (.ref x) H2) fun c d H' => W c d σ H') := by
  refine ⟨fun pins s σ H Q I h => ?_⟩
  refine wpAny_Call_Name_kw (ld_glob I hg hm ?_ hdb)
  exact PySem.W.callWith_K (h₀ := X.base) I.ok.mod.kin M.kp (thn (ha.run pos pins s σ H _ I h) fun us s1 ⟨vs, H1, I1, r, q⟩ => ⟨I1.kIn, run_makeG M F c tk hb I1 r q⟩) he hpl
end
end Y
end

section
set_option Elab.async false
set_option linter.all false
set_option maxRecDepth 100000
set_option maxHeartbeats 2000000
/-! YMi: __init__ of an own class, and what makes its objects. -/
namespace Y
open PySem PySem.Spec PyProof.Rows L2

/-- if t: raise ..; then the fields -/
def bIf (t : Tv) (r : Sv) (fa : Av) : Av := fun σ h => (t σ h).bind fun b h1 => if b = true then (match r σ h1 with | .ex e _ h2 => .ex e h2 | _ => .bad) else fa σ h1
/-- the object that __init__ gives -/
def mkO (fa : Av) (c : Str) (ns : List Str) (n : Nat) : Fn := fun ds h => match fa (none :: startD (n - 1) ds) h with
  | .ok xs h' => finP h (.obj c ns xs) h'
  | .ex e h' => .ex e h'
  | .bad => .bad
section
variable {K : PySem.W.Frag} {φ φ' : List Addr} {H H' : Hp} {st : Sl} {σ : L2.St}
/-- what comes behind the fields pre -/
def tFs (K : PySem.W.Frag) (cl : Nat → Addr) (W : WX) (C : Addr) (pre fs : List Str) (fa : Av) : TS := fun D σ H => ∃ x dx fs0 φ0 H0 φ st h, σ[0]? = some (some (.ref x)) ∧ H0 x = none ∧ Lat φ0 H0 φ H ∧ x ∉ φ ∧ H x = some (.ins C dx fs0) ∧
  fs0.map (·.1) = pre ∧ SR K φ H st σ ∧ HR K φ H h ∧ match fa st h with
  | .ok xs h' => ∀ φ' H' vs, Wk φ H φ' H' → Lat φ0 H0 φ' H' → HR K φ' H' h' → RepL K φ' H' xs vs → vs.length = fs.length → H' x = some (.ins C dx (fs0 ++ fs.zip vs)) → D.nx σ H'
  | .ex e h' => ∀ φ' H' c d, Lat φ0 H0 φ' H' → HR K φ' H' h' → ER K cl φ' H' e c d → W c d σ H'
  | .bad => False
theorem putF_new {f : Str} {v : V} : ∀ {fs : List (Str × V)}, f ∉ fs.map (·.1) → putF f v fs = fs ++ [(f, v)]
  | [], _ => rfl
  | (g, x) :: r, h => by
    simp only [List.map_cons, List.mem_cons, not_or] at h
    have e : ¬ g = f := fun z => h.1 z.symm
    show (if g = f then (g, v) :: r else (g, x) :: putF f v r) = _
    rw [if_neg e, putF_new h.2]
    rfl
end
section
variable {X : Cx} {cl : Nat → Addr} {W : WX} {C : Addr} {pre fs : List Str} {fa : Av} {fv : Ev} {f me : Str} {p p2 pos : Pos} {e c : Expr} {rest body : List Stmt} {t : Tv} {r : Sv}
theorem fs_nil : PSs X [] (tFs X.K cl W C pre [] aN) := PSs.of pss_nil fun D σ H ⟨x, dx, fs0, φ0, H0, φ, st, h, e0, n0, l, nx, ex, hp, S, R, P⟩ => P φ H [] (Wk.refl _ _) l R .nil rfl (by simpa using ex)
theorem fs_cons (T : Cls X.K C) (no : NoAttr X.K C f) (hN : X.N[0]? = some me) (hv : SE X cl W e fv) (hr : PSs X rest (tFs X.K cl W C (pre ++ [f]) fs fa))
    (h1 : fullN pre = false) (h2 : f ∉ pre) (h3 : pre.length < 1000) (hvi : Vis X.env.scope me := by first | exact Or.inl rfl | exact Or.inr (Or.inl rfl) | exact Or.inr (Or.inr rfl)) (hd : (me == ("__debug__" : Str)) = false := by decide)
    (hcd : (me == ("__classdict__" : Str)) = false := by decide) (hs : swapsWith e (some (.Attribute (.Name me p) f p2)) pos.line X.env = pure false := by rfl) :
    PSs X (.Assign [.Attribute (.Name me p) f p2] e pos :: rest) (tFs X.K cl W C pre (f :: fs) (aC fv fa)) := PSs.of (pss_cons (ps_fld (pe_var hN hvi hd hcd) hv hs) hr) fun D σ H ⟨x, dx, fs0, φ0, H0, φ, st, h, e0, n0, l, nx, ex, hp, S, R, P⟩ => by
  refine ⟨φ, st, h, S, R, ?_⟩
  simp only [aC] at P
  cases e1 : fv st h with
  | bad => simp only [e1, Rs.bind] at P
  | ex x1 h1 =>
    simp only [e1, Rs.bind] at P
    exact fun φ' H' c d l2 r er => P φ' H' c d (l.trans l2) r er
  | ok y h1' =>
    simp only [e1, Rs.bind] at P
    intro φ1 H1 v l1 r1 q1
    have ex1 := l1.keep x _ ex nx
    have nx1 := l1.out ex nx
    have mu : mutO (.ins C dx fs0) = true := by simp [mutO, hp, h1]
    refine ⟨.ref x, e0, x, C, dx, fs0, rfl, ex1, T, no, by have := congrArg List.length hp; simp at this; omega, ?_⟩
    rw [putF_new (by rw [hp]; exact h2)]
    have per : Per H1 (upd H1 x (.ins C dx (fs0 ++ [(f, v)]))) := Per.wr ex1 mu
    have w1 : Wk φ1 H1 φ1 (upd H1 x (.ins C dx (fs0 ++ [(f, v)]))) := ⟨List.prefix_refl _, per⟩
    refine ⟨x, dx, fs0 ++ [(f, v)], φ0, H0, φ1, st, h1', e0, n0, Lat.tmp (l.trans l1) n0 ex1 mu, nx1, upd_same, by simp [hp], (S.mono l1).wk w1, r1.out nx1 ex1 mu, ?_⟩
    cases e2 : fa st h1' with
    | bad => simp only [e2, Rs.bind] at P
    | ex x1 h2 => simp only [e2, Rs.bind] at P; exact P
    | ok xs h2 =>
      simp only [e2, Rs.bind] at P
      intro φ' H' vs w l' r' rl hl hx
      have w2 := w1.trans w
      exact P φ' H' (v :: vs) (l1.wk.trans w2) l' r' (.cons (Rep.mono w2.pre w2.per _ _ q1) rl) (by simp [hl]) (by rw [hx, List.append_assoc]; rfl)
theorem fs_if (hc : ST X cl W c t) (ha : SSs X cl W body r) (hr : PSs X rest (tFs X.K cl W C pre fs fa)) (hW : ∀ c d σ τ H, W c d σ H → W c d τ H) :
    PSs X (.If c body [] pos :: rest) (tFs X.K cl W C pre fs (bIf t r fa)) := PSs.of (pss_cons (ps_if hc ha pss_nil) hr) fun D σ H ⟨x, dx, fs0, φ0, H0, φ, st, h, e0, n0, l, nx, ex, hp, S, R, P⟩ => by
  refine ⟨φ, st, h, S, R, ?_⟩
  simp only [bIf] at P
  cases e1 : t st h with
  | bad => simp only [e1, Rs.bind] at P
  | ex x1 h1 =>
    simp only [e1, Rs.bind] at P
    exact fun φ' H' c d l2 r er => P φ' H' c d (l.trans l2) r er
  | ok b h1 =>
    simp only [e1, Rs.bind] at P
    intro φ1 H1 b' l1 r1 eb
    cases (show b = b' from eb)
    cases b with
    | true =>
      simp only [if_true] at P ⊢
      refine ⟨φ1, st, h1, S.mono l1, r1, ?_⟩
      cases e2 : r st h1 with
      | ex x1 τ h2 =>
        simp only [e2] at P
        exact fun φ' H' c d τ l2 r2 s2 er => hW _ _ _ _ _ (P φ' H' c d (l.trans (l1.trans l2)) r2 er)
      | _ => simp only [e2] at P
    | false =>
      simp only [Bool.false_eq_true, if_false] at P ⊢
      refine ⟨x, dx, fs0, φ0, H0, φ1, st, h1, e0, n0, l.trans l1, l1.out ex nx, l1.keep x _ ex nx, hp, S.mono l1, r1, ?_⟩
      cases e2 : fa st h1 with
      | bad => simp only [e2] at P
      | ex x1 h2 => simp only [e2] at P; exact P
      | ok xs h2 =>
        simp only [e2] at P
        exact fun φ' H' vs w => P φ' H' vs (l1.wk.trans w)
end
/-- what __init__ does -/
def spO (K : PySem.W.Frag) (cl : Nat → Addr) (C : Addr) (n : Nat) (d : Fn) : Sp := fun vs H Q E => ∃ x dx H0 φ ds h ws, vs = .ref x :: ws ∧ H0 x = none ∧ H0 dx = none ∧ dx ≠ x ∧ H = upd (upd H0 dx (.own x)) x (.ins C dx []) ∧ ds.length = n ∧
  RepL K φ H0 ds ws ∧ HR K φ H0 h ∧ Post K cl φ H0 (RR K) (d ds h) (fun v H' => v = .ref x → Q .non H') E
theorem start_none {K : PySem.W.Frag} {φ : List Addr} {H : Hp} {N : List Str} {ds : List D} {vs : List V} {v : V} (hN : N ≠ []) (r : RepL K φ H ds vs) : SR K φ H (none :: startD (N.length - 1) ds) (start N (v :: vs)) := by
  have hl : 0 < N.length := List.length_pos_iff.mpr hN
  refine ⟨by simp [startD, L2.start, r.length]; omega, fun i d e => ?_⟩
  cases i with
  | zero => simp at e
  | succ i =>
    rw [List.getElem?_cons_succ] at e
    obtain ⟨v, h1, h2⟩ := r.get (startD_at e)
    refine ⟨v, ?_, h2⟩
    unfold L2.start
    rw [List.getElem?_append_left (by have := (List.getElem?_eq_some_iff.mp h1).1; simpa using this), List.map_cons, List.getElem?_cons_succ, List.getElem?_map, h1]
    rfl
theorem zip_keys {α β : Type} : ∀ {a : List α} {b : List β}, b.length = a.length → (a.zip b).map (·.1) = a ∧ (a.zip b).map (·.2) = b
  | [], [], _ => ⟨rfl, rfl⟩
  | [], _ :: _, h => by simp at h
  | _ :: _, [], h => by simp at h
  | x :: a, y :: b, h => by
    have h' : b.length = a.length := by simpa using h
    obtain ⟨h1, h2⟩ := zip_keys h'
    simp [h1, h2]
section
variable {P : Program} {w : World} {K : PySem.W.Frag} {mg : Str → Option Value} {base : Heap} {cl : Nat → Addr}
theorem fn_O {x qual c : Str} {st : Stmt} {f C : Addr} {fd : FuncData} {N ps ns : List Str} {k : Nat} {fa : Av} (F : Fun K x qual st f fd) (S : FnScope N ps (defScope st)) (hns : PySem.W.nsIn K mainGlobals c = some (some (.ref C))) (hf : fullN ns = true) (hN : N ≠ []) (hps : ps ≠ [])
    (hb : ∀ X : Cx, X.prog = P → X.w = w → X.K = K → X.mg = mg → X.base = base → X.N = N → X.env.scope = defScope st → X.stack = X.env :: X.outer → X.env.frame = some X.env.locals → X.fn = (fun _ => true) → ∀ E : XK, Cs k X → Takes X (wOf E) → PassesOwn (model X.prog X.w) X.A X.env X.xe → PSs X (defBody st) (tFs X.K cl (wOf E) C [] ns fa)) :
    FnG P w K mg base (k + 1) f fd ps (spO K cl C (ps.length - 1) (mkO fa c ns N.length)) := by
  have hpl : 0 < ps.length := List.length_pos_iff.mpr hps
  refine gn_of F S (fun vs H Q E ⟨x, dx, H0, φ, ds, h, ws, e, _, _, _, _, el, r, _⟩ => by rw [e, List.length_cons, ← r.length, el]; omega) fun cdv A outer s H vs Q E c ⟨x, dx, H0, φ, ds, h, ws, e, n0, nd, ne, eH, el, r, R, p⟩ => ?_
  subst e eH
  have nx : x ∉ φ := R.notin n0
  have n1 : upd H0 dx (.own x) x = none := by rw [upd_ne (Ne.symm ne)]; exact n0
  have L : Lat φ H0 φ (upd (upd H0 dx (.own x)) x (.ins C dx [])) := (Lat.new nd).trans (Lat.new n1)
  have r2 := RepL.mono L.pre L.per _ _ r
  refine ⟨_, hb _ rfl rfl rfl rfl rfl rfl rfl rfl rfl rfl E c (takes_of rfl rfl rfl rfl) (passes_of rfl), x, dx, [], φ, H0, φ, none :: startD (N.length - 1) ds, h, rfl, n0, L, nx, upd_same, rfl, start_none hN r2, (R.new nd).new n1, ?_⟩
  simp only [mkO] at p
  cases e : fa (none :: startD (N.length - 1) ds) h with
  | bad => simp only [e] at p; exact p
  | ex e1 h' => simp only [e] at p; exact p
  | ok xs h' =>
    simp only [e] at p
    intro φ' H' vs _ l' r' rl hl hx
    obtain ⟨z1, z2⟩ := zip_keys hl
    exact fin_sound R p φ' H' (.ref x) l' r' (.obj hns hx (by rw [List.nil_append, z1]) (by rw [List.nil_append, z2]) rl (by rw [List.nil_append, z1]; exact hf)) rfl
end
section
variable {X : Cx} {cl : Nat → Addr} {W : WX} {e : Expr} {es : List Expr} {fa : Av} {pos p : Pos} {k n : Nat} {x : Str} {f C : Addr} {fd : FuncData} {ps : List Str} {d : Fn}
theorem s_mk (M : Mk X.K C f) (F : FnG X.prog X.w X.K X.mg X.base k f fd ps (spO X.K cl C n d)) (c : Cs (k + 1) X) (tk : Takes X W) (hg : Gl X x) (hm : X.mg x = some (.ref C)) (hb : Binds X.K fd ps []) (hn : (e :: es).length = n)
    (hal : ∀ σ h xs h', fa σ h = .ok xs h' → xs.length = (e :: es).length) (ha : SA X cl W (e :: es) fa) (hdb : (x == ("__debug__" : Str)) = false := by decide)
    (he : starEach (e :: es) X.env = (false, eval e X.env) :: starEach es X.env := by rfl) (hpl : (backTo pos (starEach es X.env)).any (·.1) = false := by rfl) : SE X cl W (.Call (.Name x p) (e :: es) [] pos) (eCall d fa) := PE.of (pe_makeG M F c tk hb hg hm ha hdb he hpl) fun σ H Q p => by
  obtain ⟨φ, st, h0, S, R0, P⟩ := p
  refine ⟨φ, st, h0, S, R0, ?_⟩
  simp only [eCall] at P
  cases e1 : fa st h0 with
  | bad => simp only [e1, Rs.bind] at P; exact P
  | ex ex1 h1 => simp only [e1, Rs.bind] at P; exact P
  | ok xs h1 =>
    simp only [e1, Rs.bind] at P
    intro φ1 H1 vs l1 r1 q1 x dx n1 n2 ne
    have P1 := P.lat l1
    refine ⟨x, dx, H1, φ1, xs, h1, vs, rfl, n1, n2, ne, rfl, by rw [hal st h0 xs h1 e1, hn], q1, r1, ?_⟩
    cases e3 : d xs h1 with
    | bad => simp only [e3] at P1; exact P1
    | ex e4 h4 => simp only [e3] at P1; exact P1
    | ok o h4 =>
      simp only [e3] at P1
      exact fun φ' H' v l r q ev => ⟨rfl, ev ▸ P1 φ' H' v l r q⟩
end
end Y
end

section
set_option Elab.async false
set_option linter.all false
set_option maxRecDepth 100000
set_option maxHeartbeats 2000000
/-! YMx: the classes of the exceptions, from what the top has written. -/
namespace Y
open PySem PySem.Spec PyProof.Rows L2
section
variable {P : Program} {w : World} {K : PySem.W.Frag} {mg : Str → Option Value} {base : Heap} {c qual f g : Str} {C fI : Addr} {fd : FuncData} {st : Stmt} {q1 q2 q3 q4 r1 r2 r3 r4 : Pos}
theorem exc1 (gm : mg c = some (.ref C)) (hns : PySem.W.nsIn K mainGlobals c = some (some (.ref C))) (T : OexC K C) (iC : PySem.W.findIn K (.ref C) "__init__" = some (some (.ref fI))) (tI : PySem.W.typeIn K (.ref fI) = some (.type "function"))
    (F : Fun K "__init__" qual st fI fd) (S : FnScope ["self", f] ["self", f] (defScope st)) (hb : defBody st = [.Assign [.Attribute (.Name "self" q1) f q2] (.Name f q3) q4]) (hno : PySem.W.findIn K (.ref C) f = some none) (b : Binds K fd ["self", f] [])
    (v1 : (defScope st).names.lookup ("self" : Str) = some .local) (v2 : (defScope st).names.lookup f = some .local) (h1 : (f == ("__debug__" : Str)) = false) (h2 : (f == ("__classdict__" : Str)) = false)
    (hs : ∀ env : Env, swapsWith (.Name f q3) (some (.Attribute (.Name "self" q1) f q2)) q4.line env = pure false) : Exc P w K mg base c [f] := by
  refine ⟨C, fI, fd, gm, hns, T, iC, tI, ?_, b⟩
  obtain ⟨oc, od, kV, doc, pm, an, cdv, ct, osl, rfl, lk, hcd⟩ := F.ex
  refine fn_of lk hcd S (fun vs H Q E ⟨a, ws, e, l, _⟩ => by rw [e]; simp [l]) fun A outer s H vs Q E hr ⟨a, ws, e, l, ha, hq⟩ => ?_
  obtain ⟨x, rfl⟩ : ∃ x, ws = [x] := by
    match ws, l with
    | [x], _ => exact ⟨x, rfl⟩
  subst e
  refine ⟨_, by rw [hb]; exact pss_one (ps_ost (pe_var (i := 0) rfl (.inl v1) (by decide) (by decide)) (pe_var (i := 1) rfl (.inl v2) h1 h2) (hs _)), ?_⟩
  refine ⟨x, rfl, .ref a, rfl, a, C, rfl, T, hno, .inl ⟨ha, fun dx n ne => ?_⟩⟩
  refine hq dx _ n ne upd_same (by rw [upd_ne ne, upd_same]; rfl) fun b n1 n2 => ?_
  rw [upd_ne n1, upd_ne n2]
theorem exc2 (gm : mg c = some (.ref C)) (hns : PySem.W.nsIn K mainGlobals c = some (some (.ref C))) (T : OexC K C) (iC : PySem.W.findIn K (.ref C) "__init__" = some (some (.ref fI))) (tI : PySem.W.typeIn K (.ref fI) = some (.type "function"))
    (F : Fun K "__init__" qual st fI fd) (S : FnScope ["self", f, g] ["self", f, g] (defScope st))
    (hb : defBody st = [.Assign [.Attribute (.Name "self" q1) f q2] (.Name f q3) q4, .Assign [.Attribute (.Name "self" r1) g r2] (.Name g r3) r4]) (hno : PySem.W.findIn K (.ref C) f = some none) (hno2 : PySem.W.findIn K (.ref C) g = some none) (b : Binds K fd ["self", f, g] [])
    (v1 : (defScope st).names.lookup ("self" : Str) = some .local) (v2 : (defScope st).names.lookup f = some .local) (v3 : (defScope st).names.lookup g = some .local) (h1 : (f == ("__debug__" : Str)) = false) (h2 : (f == ("__classdict__" : Str)) = false) (h3 : (g == ("__debug__" : Str)) = false) (h4 : (g == ("__classdict__" : Str)) = false)
    (hs : ∀ env : Env, swapsWith (.Name f q3) (some (.Attribute (.Name "self" q1) f q2)) q4.line env = pure false) (hs2 : ∀ env : Env, swapsWith (.Name g r3) (some (.Attribute (.Name "self" r1) g r2)) r4.line env = pure false) : Exc P w K mg base c [f, g] := by
  refine ⟨C, fI, fd, gm, hns, T, iC, tI, ?_, b⟩
  obtain ⟨oc, od, kV, doc, pm, an, cdv, ct, osl, rfl, lk, hcd⟩ := F.ex
  refine fn_of lk hcd S (fun vs H Q E ⟨a, ws, e, l, _⟩ => by rw [e]; simp [l]) fun A outer s H vs Q E hr ⟨a, ws, e, l, ha, hq⟩ => ?_
  obtain ⟨x, y, rfl⟩ : ∃ x y, ws = [x, y] := by
    match ws, l with
    | [x, y], _ => exact ⟨x, y, rfl⟩
  subst e
  refine ⟨_, by rw [hb]; exact pss_cons (ps_ost (pe_var (i := 0) rfl (.inl v1) (by decide) (by decide)) (pe_var (i := 1) rfl (.inl v2) h1 h2) (hs _)) (pss_one (ps_ost (pe_var (i := 0) rfl (.inl v1) (by decide) (by decide)) (pe_var (i := 2) rfl (.inl v3) h3 h4) (hs2 _))), ?_⟩
  refine ⟨x, rfl, .ref a, rfl, a, C, rfl, T, hno, .inl ⟨ha, fun dx n ne => ?_⟩⟩
  refine ⟨y, rfl, .ref a, rfl, a, C, rfl, T, hno2, .inr ⟨dx, [(f, x)], upd_same, by rw [upd_ne ne, upd_same], by simp, ?_⟩⟩
  refine hq dx _ n ne (by rw [upd_ne (Ne.symm ne), upd_same]) upd_same fun b n1 n2 => ?_
  rw [upd_ne n2, upd_ne n1, upd_ne n2]
end
end Y
end

section
set_option Elab.async false
set_option linter.all false
set_option maxRecDepth 100000
set_option maxHeartbeats 2000000
/-! YMt: try .. except C as e: .. -/
namespace Y
open PySem PySem.Spec PyProof.Rows L2

abbrev XFs := List (Str × D)
/-- an expression of the caught exception's fields -/
abbrev Xv := XFs → Hm → Rs D
abbrev XAv := XFs → Hm → Rs (List D)
abbrev XSv := XFs → Sv
def xC (d : D) : Xv := fun _ h => .ok d h
def xF (n : Str) : Xv := fun fs h => ofO (fs.lookup n) h
def x2 (o : Hm → D → D → Option D) (f g : Xv) : Xv := fun fs h => (f fs h).bind fun x h1 => (g fs h1).bind fun y h2 => ofO (o h2 x y) h2
def xN : XAv := fun _ h => .ok [] h
def xA (f : Xv) (g : XAv) : XAv := fun fs h => (f fs h).bind fun x h1 => (g fs h1).bind fun xs h2 => .ok (x :: xs) h2
def xTup (a : XAv) : Xv := fun fs h => (a fs h).bind fun xs h1 => if xs.length ≤ line then .ok (.tup xs) h1 else .bad
def xB (o : Hm → List D → Option D) (a : XAv) : Xv := fun fs h => (a fs h).bind fun xs h1 => ofO (o h1 xs) h1
/-- name = e -/
def sXA (j : Nat) (g : Xv) : XSv := fun fs σ h => match g fs h with | .ok d h1 => .nx (σ.set j (some d)) h1 | _ => .bad
def sXR (g : Xv) : XSv := fun fs _ h => match g fs h with | .ok d h1 => .rt d h1 | _ => .bad
/-- the suite of a clause with a name: the name goes -/
def hNm (i : Nat) (f : XSv) : XSv := fun fs σ h => match f fs (σ.set i none) h with
  | .nx σ1 h1 => .nx (σ1.set i none) h1
  | .rt d h1 => .rt d h1
  | _ => .bad
/-- the suite of a clause without a name -/
def hPl (f : Sv) : XSv := fun _ σ h => match f σ h with
  | .nx σ1 h1 => .nx σ1 h1
  | .rt d h1 => .rt d h1
  | _ => .bad
def handle (errs : List Str) : List (Str × XSv) → Exn → Sv
  | [], e, σ, h => .ex e σ h
  | (c, s) :: r, e, σ, h => if e.cls ∈ errs ∧ c ∈ errs then (if c = "LineError" ∨ e.cls = c then s e.fs σ h else handle errs r e σ h) else .bad
def sTry (errs : List Str) (b : Sv) (hs : List (Str × XSv)) : Sv := fun σ h => match b σ h with
  | .ex e σ1 h1 => handle errs hs e σ1 h1
  | o => o
/-- what is known of the classes -/
def ErrsOk (K : PySem.W.Frag) (errs : List Str) : Prop := ∀ c ∈ errs, ∀ d ∈ errs, ∃ C E, PySem.W.nsIn K mainGlobals c = some (some (.ref C)) ∧ PySem.W.nsIn K mainGlobals d = some (some (.ref E)) ∧ PySem.W.exmOne K (.ref C) (.ref E) = some (decide (d = "LineError" ∨ c = d))

section
variable {K : PySem.W.Frag} {φ φ' : List Addr} {H H' : Hp} {st : Sl} {σ : L2.St} {cl : Nat → Addr}
theorem SR.hide (x : SR K φ H st σ) (i : Nat) (o : Option V) : SR K φ H (st.set i none) (σ.set i o) := by
  refine ⟨by simp [x.len], fun j c e => ?_⟩
  by_cases hj : j = i
  · subst hj
    have lt : j < st.length := by
      have := (List.getElem?_eq_some_iff.mp e).1
      simpa using this
    rw [List.getElem?_set_self lt] at e
    cases e
  · rw [List.getElem?_set_ne (Ne.symm hj)] at e
    rw [List.getElem?_set_ne (Ne.symm hj)]
    exact x.get j c e
/-- the caught exception, in slot i -/
structure XR (K : PySem.W.Frag) (i : Nat) (a : Addr) (d : Option Addr) (φ : List Addr) (H : Hp) (fs : XFs) (σ : L2.St) : Prop where
  sl : σ[i]? = some (some (.ref a))
  fl : (fs = [] ∧ d = none) ∨ ∃ dd gs, d = some dd ∧ dd ∉ φ ∧ H dd = some (.xd gs) ∧ RepF K φ H fs gs
theorem RepF.mono {fs : XFs} {gs : List (Str × V)} (p : φ <+: φ') (q : Per H H') (r : RepF K φ H fs gs) : RepF K φ' H' fs gs := Paired.mapP r fun _ _ z => ⟨z.1, Rep.mono p q _ _ z.2⟩
theorem RepF.get {fs : XFs} {gs : List (Str × V)} {n : Str} {d : D} (r : RepF K φ H fs gs) (e : fs.lookup n = some d) : ∃ v, gs.lookup n = some v ∧ Rep K φ H d v := by
  induction r with
  | nil => simp at e
  | @cons p q a b h _ ih =>
    obtain ⟨m, x⟩ := p
    obtain ⟨m', y⟩ := q
    obtain ⟨h1, h2⟩ := h
    simp only at h1 h2
    subst h1
    simp only [List.lookup_cons] at e ⊢
    cases hm : (n == m) with
    | true =>
      rw [hm] at e
      simp only at e
      cases e
      exact ⟨y, rfl, h2⟩
    | false =>
      rw [hm] at e
      exact ih e
theorem XR.mono {i : Nat} {a : Addr} {d : Option Addr} {fs : XFs} (x : XR K i a d φ H fs σ) (l : Lat φ H φ' H') : XR K i a d φ' H' fs σ := by
  obtain ⟨sl, z | ⟨dd, gs, ed, nd, eH, r⟩⟩ := x
  · exact ⟨sl, .inl z⟩
  · exact ⟨sl, .inr ⟨dd, gs, ed, l.out eH nd, l.keep dd _ eH nd, r.mono l.pre l.per⟩⟩
def tX {α β : Type} (K : PySem.W.Frag) (i : Nat) (a : Addr) (d : Option Addr) (Rel : RT α β) (f : XFs → Hm → Rs α) : L2.St → Hp → (β → Hp → Prop) → Prop := fun σ H Q =>
  ∃ φ h fs, XR K i a d φ H fs σ ∧ HR K φ H h ∧ Post K (fun _ => 0) φ H Rel (f fs h) Q fun _ _ _ => False
def tXs (K : PySem.W.Frag) (i : Nat) (a : Addr) (d : Option Addr) (f : XSv) : TS := fun D σ H => ∃ φ st h fs, SR K φ H st σ ∧ XR K i a d φ H fs σ ∧ HR K φ H h ∧ match f fs st h with
  | .nx σ1 h' => ∀ φ' H' τ, Lat φ H φ' H' → HR K φ' H' h' → SR K φ' H' σ1 τ → D.nx τ H'
  | .rt x h' => ∀ φ' H' v, Lat φ H φ' H' → HR K φ' H' h' → Rep K φ' H' x v → D.rt v H'
  | _ => False
end
section
variable {X : Cx} {a : Addr} {oe : Obj} {cls : Value} {d : Option Addr} {i j : Nat} {e e' : Expr} {es : List Expr} {f g : Xv} {fa : XAv} {pos p p1 p2 : Pos} {n x fn : Str} {C : Addr}
theorem x_seq1 {α β γ δ : Type} {R1 : RT γ δ} {f : XFs → Hm → Rs γ} {σ : L2.St} {H : Hp} {Q : β → Hp → Prop} {Rel : RT α β} [Back Rel] {k : γ → Hm → Rs α} {R : δ → Hp → Prop}
    (p : tX X.K i a d Rel (fun fs h => (f fs h).bind fun x h1 => k x h1) σ H Q)
    (h : ∀ φ H1 h1 x v, HR X.K φ H1 h1 → R1 H φ H1 x v → Post X.K (fun _ => 0) φ H1 Rel (k x h1) Q (fun _ _ _ => False) → R v H1) : tX X.K i a d R1 f σ H R := by
  obtain ⟨φ, h0, fs, S, R0, P⟩ := p
  exact ⟨φ, h0, fs, S, R0, P.seq fun x h1 φ1 H1 v l1 r1 q1 P1 => h φ1 H1 h1 x v r1 q1 P1⟩
theorem x_fld (T : XfC X.K C) (hno : PySem.W.findIn X.K (.ref C) n = some none) {pn : List (Addr × Obj)} (hz : Zc cls d oe) (hf : ∃ vs, oe.data = .fields vs) (hcls : cls = .ref C) (hN : X.N[i]? = some x)
    (hv : Vis X.env.scope x := by first | exact Or.inl rfl | exact Or.inr (Or.inl rfl) | exact Or.inr (Or.inr rfl)) (hd : (x == ("__debug__" : Str)) = false := by decide) (hcd : (x == ("__classdict__" : Str)) = false := by decide)
    (hb : attributeBase (.Name x p) n X.env (eval (.Name x p) X.env) = eval (.Name x p) X.env := by rfl) : PE (X.suite a ((a, oe) :: pn)) (.Attribute (.Name x p) n pos) (tX X.K i a d (RR X.K) (xF n)) :=
  PE.of (pe_xf T hno hz hf (pe_var (X := X.suite a ((a, oe) :: pn)) hN hv hd hcd) hb) fun σ H Q ⟨φ, h, fs, ⟨sl, hfl⟩, R, P⟩ => by
    simp only [xF] at P
    rcases hfl with ⟨rfl, _⟩ | ⟨dd, gs, ed, nd, eH, r⟩
    · exact P.elim
    cases e : fs.lookup n with
    | none => rw [e] at P; exact P.elim
    | some z =>
      rw [e] at P
      obtain ⟨v, h1, h2⟩ := r.get e
      exact ⟨_, sl, rfl, hcls, dd, gs, v, ed, eH, h1, P.val R h2⟩
theorem x_c {X : Cx} {i : Nat} {z : D} {v : V} (h : PE X e (L2.tC v)) (r : ∀ φ H, Rep X.K φ H z v) : PE X e (tX X.K i a d (RR X.K) (xC z)) := PE.of h fun σ H Q ⟨φ, h0, fs, S, R, P⟩ => P.val R (r φ H)
theorem x_int {k q} : PE X (.Constant (.int k) q pos) (tX X.K i a d (RR X.K) (xC (.int k))) := x_c pe_int fun _ _ => .int k
theorem x_str {k q} : PE X (.Constant (.str k) q pos) (tX X.K i a d (RR X.K) (xC (.str k))) := x_c pe_str fun _ _ => .str k
theorem x_op {op : Operator} {o : Hm → D → D → Option D} (ho : OpY X (binaryOp op) o) (ha : PE X e (tX X.K i a d (RR X.K) f)) (hb : PE X e' (tX X.K i a d (RR X.K) g)) : PE X (.BinOp e op e' pos) (tX X.K i a d (RR X.K) (x2 o f g)) := by
  refine ⟨fun pins s σ H Q I ⟨φ, h0, fs, S, R0, P⟩ => ?_⟩
  have z : tX X.K i a d (RR X.K) f σ H fun v H1 => tX X.K i a d (RR X.K) g σ H1 fun u H2 => ∃ φ h x y, HR X.K φ H2 h ∧ Rep X.K φ H2 x v ∧ Rep X.K φ H2 y u ∧ Post X.K (fun _ => 0) φ H2 (RR X.K) (ofO (o h x y) h) Q fun _ _ _ => False :=
    ⟨φ, h0, fs, S, R0, P.seq fun x h1 φ1 H1 v l1 r1 q1 P1 => ⟨φ1, h1, fs, S.mono l1, r1, P1.seq fun y h2 φ2 H2 u l2 r2 q2 P2 => ⟨φ2, h2, x, y, r2, Rep.mono l2.pre l2.per _ _ q1, q2, P2⟩⟩⟩
  refine wpAny_BinOp (bin ha hb I z fun v u s2 x y H2 I2 rx ry ⟨φ, h, dx, dy, r, q1, q2, P⟩ => ?_)
  exact ho _ _ Q φ H2 h dx dy x y pins s2 σ v u I2 rx ry r q1 q2 P
theorem x_nil : PA X [] (tX X.K i a d (RL X.K) xN) := PA.of pa_nil fun σ H Q ⟨φ, h, fs, S, R, P⟩ => P.val R .nil
theorem x_cons (h1 : PE X e (tX X.K i a d (RR X.K) f)) (h2 : PA X es (tX X.K i a d (RL X.K) fa)) (hs : starEach (e :: es) X.env = (false, eval e X.env) :: starEach es X.env := by rfl) : PA X (e :: es) (tX X.K i a d (RL X.K) (xA f fa)) := by
  refine PA.of (pa_cons h1 h2 hs) fun σ H Q ⟨φ, h, fs, S, R, P⟩ => ?_
  exact ⟨φ, h, fs, S, R, P.seq fun x h1 φ1 H1 v l1 r1 q1 P1 => ⟨φ1, h1, fs, S.mono l1, r1, P1.seq fun xs h2 φ2 H2 vs l2 r2 q2 P2 => P2.val r2 (.cons (Rep.mono l2.pre l2.per _ _ q1) q2)⟩⟩
theorem x_tup {x1} (h : PA X es (tX X.K i a d (RL X.K) fa)) : PE X (.Tuple es x1 pos) (tX X.K i a d (RR X.K) (xTup fa)) := PE.of (pe_tup h) fun σ H Q p =>
  x_seq1 (k := fun xs h1 => if xs.length ≤ line then Rs.ok (D.tup xs) h1 else .bad) p fun φ H1 h1 xs vs r q P => by
    split at P
    · rename_i hz
      refine ⟨by rw [← q.length, ← line_eq]; exact hz, fun p hp => P φ _ _ (Lat.new hp) (r.new hp) (.tup upd_same (RepL.mono (List.prefix_refl _) (Per.new hp) _ _ q))⟩
    · exact P.elim
theorem x_b {id : String} {o : Hm → List D → Option D} (hc : CaY X (.builtin id) o) (hv : bootBuiltins x = some (.builtin id)) (hm : X.mg x = none) (hg : Gl X x) (ha : PA X (e :: es) (tX X.K i a d (RL X.K) fa)) (hn : x ≠ "__name__" := by decide) (hdb : (x == ("__debug__" : Str)) = false := by decide)
    (he : starEach (e :: es) X.env = (false, eval e X.env) :: starEach es X.env := by rfl) (hpl : (backTo pos (starEach es X.env)).any (·.1) = false := by rfl) : PE X (.Call (.Name x p) (e :: es) [] pos) (tX X.K i a d (RR X.K) (xB o fa)) :=
  PE.of (pe_callB hc hg hm hv ha hn hdb he hpl) fun σ H Q p => x_seq1 (k := fun xs h1 => ofO (o h1 xs) h1) p fun φ H1 h1 xs vs r q P => ⟨_, _, φ, h1, xs, r, q, P⟩
theorem xs_asg {tg : Expr} (h : PE X e (tX X.K i a d (RR X.K) f)) (hg : SG X tg (gN j) [j]) (hs : swapsWithSole [tg] e pos.line X.env = pure false := by rfl) (hw : swappedStores [tg] e X.env = pure none := by rfl) (h1 : (assignEach [tg] X.env).map (·.2) = [assign tg X.env] := by rfl) :
    PSs X [.Assign [tg] e pos] (tXs X.K i a d (sXA j f)) := pss_one (PS.of (ps_asg h hg hs hw h1) fun D σ H ⟨φ, st, h, fs, S, xr, R, P⟩ => by
  refine ⟨φ, h, fs, xr, R, ?_⟩
  simp only [sXA] at P
  cases e1 : f fs h with
  | bad => simp only [e1] at P
  | ex _ _ => simp only [e1] at P
  | ok z h1 =>
    simp only [e1] at P
    exact fun φ1 H1 v l1 r1 q1 => ⟨φ1, st, z, _, S.mono l1, q1, rfl, fun τ S' _ => P φ1 H1 τ l1 r1 S'⟩)
theorem xs_ret (h : PE X e (tX X.K i a d (RR X.K) f)) : PSs X [.Return (some e) pos] (tXs X.K i a d (sXR f)) := pss_one (PS.of (ps_ret h) fun D σ H ⟨φ, st, h, fs, S, xr, R, P⟩ => by
  refine ⟨φ, h, fs, xr, R, ?_⟩
  simp only [sXR] at P
  cases e1 : f fs h with
  | bad => simp only [e1] at P
  | ex _ _ => simp only [e1] at P
  | ok z h1 =>
    simp only [e1] at P
    exact fun φ1 H1 v l1 r1 q1 => P φ1 H1 v l1 r1 q1)
end
/-- the clauses -/
inductive Cla (X : Cx) (cl : Nat → Addr) : List ExceptHandler → List (Str × XSv) → Prop
  | nil : Cla X cl [] []
  | nm {c n : Str} {i : Nat} {C : Addr} {f : XSv} {s1 : Stmt} {rest : List Stmt} {np hp : Pos} {hds : List ExceptHandler} {l : List (Str × XSv)} (hc : Names X c (.ref C)) (hns : PySem.W.nsIn X.K mainGlobals c = some (some (.ref C))) (hl : c ≠ "LineError") (hi : X.N[i]? = some n) (hln : X.env.kindOf n = some .local)
      (hsu : ∀ (a : Addr) (oe : Obj) (cls : Value) (d : Option Addr) (pn : List (Addr × Obj)), Zc cls d oe → (∃ vs, oe.data = .fields vs) → cls = .ref C → PSs (X.suite a ((a, oe) :: pn)) (s1 :: rest) (tXs X.K i a d f)) (r : Cla X cl hds l) :
      Cla X cl (.ExceptHandler (some (.Name c np)) (some n) (s1 :: rest) hp :: hds) ((c, hNm i f) :: l)
  | pl {c : Str} {C : Addr} {f : Sv} {s1 : Stmt} {rest : List Stmt} {np hp : Pos} {hds : List ExceptHandler} {l : List (Str × XSv)} (hc : Names X c (.ref C)) (hns : PySem.W.nsIn X.K mainGlobals c = some (some (.ref C)))
      (hsu : ∀ (a : Addr) (oe : Obj) (pn : List (Addr × Obj)), SSs (X.suite a ((a, oe) :: pn)) cl W0 (s1 :: rest) f) (r : Cla X cl hds l) :
      Cla X cl (.ExceptHandler (some (.Name c np)) none (s1 :: rest) hp :: hds) ((c, hPl f) :: l)
end Y
end

section
set_option Elab.async false
set_option linter.all false
set_option maxRecDepth 100000
set_option maxHeartbeats 2000000
/-! YMu: the rule of try .. except. -/
namespace Y
open PySem PySem.Spec PyProof.Rows L2
/-- what the clauses wish of an exception of the body -/
def wY (K : PySem.W.Frag) (cl : Nat → Addr) (errs : List Str) (l : List (Str × XSv)) (D : Ends) (W : WX) : WX := fun cls d σ H => ∃ φ st h e, SR K φ H st σ ∧ HR K φ H h ∧ ER K cl φ H e cls d ∧ PostS K cl φ H (handle errs l e st h) D W
section
variable {X : Cx} {cl : Nat → Addr} {W : WX} {body : List Stmt} {c0 : ExceptHandler} {cs : List ExceptHandler} {l : List (Str × XSv)} {b : Sv} {errs : List Str} {pos : Pos}
theorem xd_out {K : PySem.W.Frag} {φ : List Addr} {H : Hp} {h : Hm} {dd : Addr} {gs : List (Str × V)} (R : HR K φ H h) (e : H dd = some (.xd gs)) : dd ∉ φ := fun m => by
  obtain ⟨k, z⟩ := List.getElem?_of_mem m
  obtain ⟨o, _, q⟩ := R.at z
  cases q with
  | lst h _ => rw [e] at h; cases h
  | dct h _ => rw [e] at h; cases h
  | dtu h _ => rw [e] at h; cases h
theorem s_try (hk : X.stack = X.env :: X.outer) (hL : X.env.frame = some X.env.locals) (nd : X.N.Nodup) (T : ErrsOk X.K errs) (tk : Takes X W)
    (hb : ∀ (W' : WX) (pn : List (Addr × Obj)) (xe : Value → Shared → Prop), Takes (X.tr pn xe) W' → PassesOwn (model X.prog X.w) X.A X.env xe → SSs (X.tr pn xe) cl W' body b)
    (hh : Cla X cl (c0 :: cs) l) : SS X cl W (.Try body (c0 :: cs) [] [] pos) (sTry errs b l) := by
  refine ⟨fun pins sa σa Ha D I0 ⟨φ0, st0, hm0, S0, R0, P0⟩ => ?_⟩
  have okX := I0.ok
  have fr0 : X.A.frames = some (X.env :: X.outer) := by rw [okX.frames]; rw [hk]
  have start : tSt X.K cl (wY X.K cl errs l D W) b D σa Ha := by
    refine ⟨φ0, st0, hm0, S0, R0, ?_⟩
    simp only [sTry] at P0
    cases e : b st0 hm0 with
    | ex e1 σ1 h1 =>
      simp only [e] at P0
      exact fun φ' H' c d τ l r s er => ⟨φ', σ1, h1, e1, s, r, er, P0.lat l⟩
    | _ => simp only [e] at P0; exact P0
  refine wpAny_Try_except (wpAny_mono ((hb _ (X.pn ++ pins) (fun ev t1 => wpAny (model X.prog X.w) X.A (noteFrame ev X.env) (fun _ t2 => wpAny (model X.prog X.w) X.A (setFlight ev none)
    (fun _ t3 => wpAny (model X.prog X.w) X.A (handleBy ev X.env (c0 :: cs)) (SP X pins D) X.xe t3) X.xe t2) X.xe t1) (fun ev t0 air => ?_) PassesOwn.looking).run [] sa σa Ha D (I0.toTry _) start) (fun fl t1 out => ?_) fun _ _ q => q)
  · -- what flies is caught
    obtain ⟨ea, G, tI, pins1, σ1, H1, kc, dO, rfl, J1, keepG, up1, sky, fresh, os1, bare1, w⟩ := air
    have JX : Inv X pins σ1 H1 tI := J1.ofTry okX
    rw [show (X.tr (X.pn ++ pins) _).stack = X.env :: X.outer from hk] at sky
    change wpAny _ X.A (noteFrame (.ref ea) X.env) _ _ t0
    refine Sky.land Zc.steady fr0 hL sky fun hp fly up2 => ?_
    have JL : Inv X pins σ1 H1 { t0 with heap := hp } := JX.landed keepG fly.1 (up1.trans up2) os1 bare1
    obtain ⟨ox, vx, gx, zx, dx⟩ := fly.there
    have apart : ∀ {q : Heap} {o : Obj} {v : Array Value}, q.FunFrames G (X.env :: X.outer) → q.get? ea = some o → o.data = .fields v → ea ∉ frs (X.env :: X.outer) := by
      intro q o v ff g dd hm
      obtain ⟨_, o2, g2, nf⟩ := ff.mem hm
      rw [g] at g2
      cases g2
      exact nf _ dd
    have a0 := apart fly.2.2.1 gx dx
    have aL : ea ≠ X.env.locals := by
      intro z
      exact a0 (List.mem_filterMap.mpr ⟨X.env, by simp, by rw [hL, z]⟩)
    have aF : ea ∉ X.fs := by
      intro hm
      obtain ⟨en, hen, q⟩ := List.mem_filterMap.mp hm
      exact a0 (List.mem_filterMap.mpr ⟨en, by simp [hen], q⟩)
    have JS := JL.suite gx dx fresh aL aF
    have each : ∀ {ks : List ExceptHandler} {m : List (Str × XSv)}, Cla X cl ks m → wY X.K cl errs m D W kc dO σ1 H1 → wpAny (model X.prog X.w) X.A (handleBy (.ref ea) X.env ks) (SP X pins D) X.xe { t0 with heap := hp } := by
      intro ks m hks
      have classTest : ∀ {c : Str} {C : Addr} {np : Pos}, Names X c (.ref C) → ∀ {Q : Value → Shared → Prop} {E : Value → Shared → Prop}, Q (.ref C) { t0 with heap := hp } → wpAny (model X.prog X.w) (X.A.mark (some (.ref ea))) (eval (.Name c np) X.env) Q E { t0 with heap := hp } := by
        intro c C np hc Q E q
        obtain ⟨hg, hdb, hm | ⟨hm, hv, hn⟩⟩ := hc
        · exact ld_glob (X := X.suite ea ((ea, ox) :: (X.pn ++ pins))) JS hg hm q hdb
        · exact ld_blt (X := X.suite ea ((ea, ox) :: (X.pn ++ pins))) JS hg hm hv q hn hdb
      have looksT : PySem.W.Looks (model X.prog X.w) hp (typeOf (.ref ea)) kc := fun A Q E s k q => wpAny_typeOf_ref (k _ _ gx) (by rw [zx.1]; exact q)
      have known : ∀ {e : Exn} {φ : List Addr} {c : Str} {C : Addr}, ER X.K cl φ H1 e kc dO → e.cls ∈ errs → c ∈ errs → PySem.W.nsIn X.K mainGlobals c = some (some (.ref C)) →
          PySem.W.exmOne X.K kc (.ref C) = some (decide (c = "LineError" ∨ e.cls = c)) ∧ (e.cls = c → kc = .ref C) := by
        intro e φ c C er m1 m2 hc
        obtain ⟨⟨C1, rfl, n1⟩, _⟩ := er
        obtain ⟨C2, C3, n2, n3, x⟩ := T _ m1 _ m2
        rw [n1] at n2
        cases n2
        rw [hc] at n3
        cases n3
        refine ⟨x, fun z => ?_⟩
        rw [z, hc] at n1
        cases n1
        rfl
      induction hks with
      | nil =>
        rintro ⟨φ, st, hm, e, S, R, er, P⟩
        refine wpAny_handleBy_nil ?_
        obtain ⟨g1, g2, g3, oq, vq, T1, oT, tq, gq, zq, dq, f1, rq⟩ := id fly
        unfold PySem.passOn
        refine wpAny_bind (wpAny_field gq dq f1 ?_)
        rw [if_neg (show ¬ ((Value.ref T1 == Value.none) = true) by simp)]
        have last : wpAny (model X.prog X.w) X.A (setFlight (.ref ea) X.env.frame) (fun _ t4 => wpAny (model X.prog X.w) X.A (throw (.ref ea) : Sem Flow) (SP X pins D) X.xe t4) X.xe { t0 with heap := hp } := by
          rw [hL]
          refine HandSPX.setFlight_upZ fly fun h4 held up4 => wpAny_throw (tk _ _ ⟨ea, G, tI, pins, σ1, H1, kc, dO, rfl, JX, keepG, (up1.trans up2).trans up4, .inr (.inr (by rw [hk]; exact held)), fresh, os1, bare1, ?_⟩)
          exact P φ H1 kc dO σ1 (Lat.refl _ _) R S er
        first
          | exact wpAny_bind (wpAny_pure (wpAny_bind last))
          | exact wpAny_bind last
      | @nm c n i C f s1 rest np hp' hds m2 hc hns hne hi hln hsu r ih =>
        rintro ⟨φ, st, hm, e, S, R, er, P⟩
        simp only [handle] at P
        split at P
        · rename_i hm2
          obtain ⟨x1, x2⟩ := known er hm2.1 hm2.2 hns
          refine wpAny_handleBy_cons (codeAny_handlers_test (classTest hc ?_)) (by intro q; cases q)
          refine (PySem.W.exm_one (M := model X.prog X.w) JL.kIn looksT x1).here ?_
          by_cases hcc : c = "LineError" ∨ e.cls = c
          · rw [decide_eq_true hcc]
            rw [if_pos hcc] at P
            have eC := x2 (hcc.resolve_left hne)
            refine codeAny_handlers_suite_as (HandSPX.lands_againZ fly fun h4 fly4 up4 => ?_)
            have J4 : Inv X pins σ1 H1 { t0 with heap := h4 } := JX.landed keepG fly4.1 ((up1.trans up2).trans up4) os1 bare1
            obtain ⟨o4, v4, g4, z4, d4⟩ := fly4.there
            refine store_ok (X := X.suite ea ((ea, o4) :: (X.pn ++ pins))) (v := .ref ea) (J4.suite g4 d4 fresh aL aF) nd hi (.inl hln) rfl (fun t5 J5 => ?_) (.inr hln)
            have lt : i < σ1.length := by rw [← S.len, S.len, JX.len]; exact (List.getElem?_eq_some_iff.mp hi).1
            have xr : XR X.K i ea dO φ H1 e.fs (σ1.set i (some (.ref ea))) := by
              refine ⟨List.getElem?_set_self lt, ?_⟩
              rcases er.2 with z | ⟨dd, gs, z1, z2, z3⟩
              · exact .inl z
              · exact .inr ⟨dd, gs, z1, xd_out R z2, z2, z3⟩
            have go : tXs X.K i ea dO f { nx := fun σ' H' => D.nx (σ'.set i none) H', rt := D.rt, bk := fun σ' H' => D.bk (σ'.set i none) H', ct := fun σ' H' => D.ct (σ'.set i none) H' } (σ1.set i (some (.ref ea))) H1 := by
              refine ⟨φ, st.set i none, hm, e.fs, S.hide i _, xr, R, ?_⟩
              simp only [hNm] at P
              cases q : f e.fs (st.set i none) hm with
              | nx σ2 h2 => simp only [q] at P; exact fun φ' H' τ l r s => P φ' H' _ l r (s.off i)
              | rt z h2 => simp only [q] at P; exact P
              | _ => simp only [q] at P; exact P
            refine wpAny_mono ((hsu ea o4 kc dO (X.pn ++ pins) z4 ⟨_, d4⟩ eC).run [] t5 _ H1 _ J5 go) (fun fl t6 out => ?_) fun _ _ q => q.elim
            have fin : ∀ {σ6 : L2.St} {H6 : Hp} {Q : Shared → Prop}, Inv (X.suite ea ((ea, o4) :: (X.pn ++ pins))) [] σ6 H6 t6 → (∀ t7, Inv X pins (σ6.set i none) H6 t7 → Q t7) →
                wpAny (model X.prog X.w) X.A (do bindName X.env n .none; unbindBehindTheSuite X.env n hp') (fun _ t7 => Q t7) X.xe t6 := fun J6 hq => gone_ok (J6.unsuite okX) nd hi hln hq
            cases fl with
            | next => obtain ⟨σ6, H6, J6, q6⟩ := out; exact fin J6 fun _ J7 => ⟨_, _, J7, q6⟩
            | brk => obtain ⟨σ6, H6, J6, q6⟩ := out; exact fin J6 fun _ J7 => ⟨_, _, J7, q6⟩
            | cont => obtain ⟨σ6, H6, J6, q6⟩ := out; exact fin J6 fun _ J7 => ⟨_, _, J7, q6⟩
            | ret u => obtain ⟨v6, σ6, H6, J6, r6, q6⟩ := out; exact fin J6 fun _ J7 => ⟨_, _, _, J7, r6, q6⟩
          · rw [decide_eq_false hcc]
            rw [if_neg hcc] at P
            exact ih ⟨φ, st, hm, e, S, R, er, P⟩
        · exact P.elim
      | @pl c C f s1 rest np hp' hds m2 hc hns hsu r ih =>
        rintro ⟨φ, st, hm, e, S, R, er, P⟩
        simp only [handle] at P
        split at P
        · rename_i hm2
          obtain ⟨x1, x2⟩ := known er hm2.1 hm2.2 hns
          refine wpAny_handleBy_cons (codeAny_handlers_test (classTest hc ?_)) (by intro q; cases q)
          refine (PySem.W.exm_one (M := model X.prog X.w) JL.kIn looksT x1).here ?_
          by_cases hcc : c = "LineError" ∨ e.cls = c
          · rw [decide_eq_true hcc]
            rw [if_pos hcc] at P
            refine codeAny_handlers_suite (HandSPX.lands_againZ fly fun h4 fly4 up4 => ?_)
            have J4 : Inv X pins σ1 H1 { t0 with heap := h4 } := JX.landed keepG fly4.1 ((up1.trans up2).trans up4) os1 bare1
            obtain ⟨o4, v4, g4, z4, d4⟩ := fly4.there
            have go : tSt X.K cl W0 f D σ1 H1 := by
              refine ⟨φ, st, hm, S, R, ?_⟩
              simp only [hPl] at P
              cases q : f st hm with
              | nx σ2 h2 => simp only [q] at P; exact P
              | rt z h2 => simp only [q] at P; exact P
              | _ => simp only [q] at P; exact P.elim
            refine wpAny_mono ((hsu ea o4 (X.pn ++ pins)).run [] _ σ1 H1 _ (J4.suite g4 d4 fresh aL aF) go) (fun fl t6 out => ?_) fun _ _ q => q.elim
            cases fl with
            | next => obtain ⟨σ6, H6, J6, q6⟩ := out; exact ⟨_, _, J6.unsuite okX, q6⟩
            | brk => obtain ⟨σ6, H6, J6, q6⟩ := out; exact ⟨_, _, J6.unsuite okX, q6⟩
            | cont => obtain ⟨σ6, H6, J6, q6⟩ := out; exact ⟨_, _, J6.unsuite okX, q6⟩
            | ret u => obtain ⟨v6, σ6, H6, J6, r6, q6⟩ := out; exact ⟨_, _, _, J6.unsuite okX, r6, q6⟩
          · rw [decide_eq_false hcc]
            rw [if_neg hcc] at P
            exact ih ⟨φ, st, hm, e, S, R, er, P⟩
        · exact P.elim
    exact each hh w
  · cases fl with
    | next => obtain ⟨σ2, H2, J2, q2⟩ := out; exact wpAny_execs_nil ⟨σ2, H2, J2.ofTry okX, q2⟩
    | brk => obtain ⟨σ2, H2, J2, q2⟩ := out; exact ⟨σ2, H2, J2.ofTry okX, q2⟩
    | cont => obtain ⟨σ2, H2, J2, q2⟩ := out; exact ⟨σ2, H2, J2.ofTry okX, q2⟩
    | ret u => obtain ⟨v, σ2, H2, J2, r2, q2⟩ := out; exact ⟨v, σ2, H2, J2.ofTry okX, r2, q2⟩
end
end Y
end

section
set_option Elab.async false
set_option linter.all false
set_option maxRecDepth 100000
set_option maxHeartbeats 2000000
/-! YMv: what gen.py prints for own classes, exceptions and try. -/
namespace Y
open PySem PySem.Spec PyProof.Rows L2
/-- the statements of a class -/
def clsB (s : Stmt) : List Stmt := match s with
  | .ClassDef (body := b) .. => b
  | _ => []
/-- a class whose __init__ does what d does -/
def MkD (P : Program) (w : World) (K : PySem.W.Frag) (cl : Nat → Addr) (mg : Str → Option Value) (base : Heap) (k : Nat) (c : Str) (ps : List Str) (n : Nat) (d : Fn) : Prop :=
  ∃ (C f : Addr) (fd : FuncData), mg c = some (.ref C) ∧ Mk K C f ∧ Binds K fd ps [] ∧ FnG P w K mg base k f fd ps (spO K cl C n d)
/-- an exception class as a clause names it -/
def Hcl (K : PySem.W.Frag) (mg : Str → Option Value) (c : Str) (fs : List Str) : Prop :=
  ∃ C : Addr, mg c = some (.ref C) ∧ PySem.W.nsIn K mainGlobals c = some (some (.ref C)) ∧ (fs ≠ [] → XfC K C) ∧ ∀ n ∈ fs, PySem.W.findIn K (.ref C) n = some none
theorem Cs.tr {k : Nat} {X : Cx} (c : Cs k X) {pn : List (Addr × Obj)} {xe : Value → Shared → Prop} : Cs k (X.tr pn xe) := ⟨c.room, c.gd, c.calm, c.nd⟩
theorem exm_of {K : PySem.W.Frag} {S C : Addr} {b : Bool} (h1 : PySem.W.subIn K (.ref C) (.type "BaseException") = some true) (h2 : PySem.W.isClsIn K C = true) (h3 : PySem.W.typeIn K (.ref C) = some (.type "type")) (h4 : PySem.W.subIn K (.ref S) (.ref C) = some b) : PySem.W.exmOne K (.ref S) (.ref C) = some b := by
  have q : (PySem.W.clsIn K C).isSome = true := h2
  simp [PySem.W.exmOne, PySem.W.kitCls, h1, q, h3, h4]
theorem kit_of {K : PySem.W.Frag} {T : String} {C : Addr} {b : Bool} (h2 : PySem.W.isClsIn K C = true) (h3 : PySem.W.typeIn K (.ref C) = some (.type "type")) (h4 : PySem.W.subIn K (.type T) (.ref C) = some b) : PySem.W.kitOne K (.type T) (.ref C) = some b := by
  have q : (PySem.W.clsIn K C).isSome = true := h2
  have e : ¬ ((Value.type T == Value.ref C) = true) := fun h => by cases (beq_iff_eq.mp h)
  rw [PySem.W.kitOne, if_neg e]
  simp [PySem.W.kitCls, q, h3, h4]
theorem kit_self {K : PySem.W.Frag} {C : Addr} : PySem.W.kitOne K (.ref C) (.ref C) = some true := by simp [PySem.W.kitOne]
section
variable {X : Cx} {cl : Nat → Addr} {W : WX} {e : Expr} {es : List Expr} {fa : Av} {pos p : Pos} {k j n : Nat} {x c m : Str} {ps fs : List Str} {d : Fn}
theorem q_mk (F : MkD X.prog X.w X.K cl X.mg X.base j x ps n d) (hj : j + 1 ≤ k) (c : Cs k X) (tk : Takes X W) (ha : SA X cl W (e :: es) fa) (hal : ∀ σ h xs h', fa σ h = .ok xs h' → xs.length = (e :: es).length) (hn : (e :: es).length = n := by rfl) (hg : Gl X x := by rfl) (hdb : (x == ("__debug__" : Str)) = false := by decide)
    (he : starEach (e :: es) X.env = (false, eval e X.env) :: starEach es X.env := by rfl) (hpl : (backTo pos (starEach es X.env)).any (·.1) = false := by rfl) : SE X cl W (.Call (.Name x p) (e :: es) [] pos) (eCall d fa) := by
  obtain ⟨C, f, fd, hm, M, hb, G⟩ := F
  exact s_mk M G (c.mono hj) tk hg hm hb hn hal ha hdb he hpl
theorem cx_repr (c0 : Cs k X) {a : Addr} {pn : List (Addr × Obj)} : CaY (X.suite a pn) (.builtin "repr") bRepr := c_reprW (by have := c0.room.un; show X.A.units + 200 < cLine; omega) c0.gd
theorem c_nm {i : Nat} {f : XSv} {s1 : Stmt} {rest : List Stmt} {np hp : Pos} {hds : List ExceptHandler} {l : List (Str × XSv)} (T : Hcl X.K X.mg c fs) (hfs : fs ≠ []) (hi : X.N[i]? = some m) (hln : X.env.kindOf m = some .local)
    (hsu : ∀ (a : Addr) (oe : Obj) (cls : Value) (d : Option Addr) (pn : List (Addr × Obj)) (C : Addr), Zc cls d oe → (∃ vs, oe.data = .fields vs) → cls = .ref C → XfC X.K C → (∀ n ∈ fs, PySem.W.findIn X.K (.ref C) n = some none) → PSs (X.suite a ((a, oe) :: pn)) (s1 :: rest) (tXs X.K i a d f)) (r : Cla X cl hds l)
    (hg : Gl X c := by rfl) (hdb : (c == ("__debug__" : Str)) = false := by decide) (hl : c ≠ "LineError" := by decide) : Cla X cl (.ExceptHandler (some (.Name c np)) (some m) (s1 :: rest) hp :: hds) ((c, hNm i f) :: l) := by
  obtain ⟨C, gm, hns, xf, no⟩ := T
  exact .nm ⟨hg, hdb, .inl gm⟩ hns hl hi hln (fun a oe cls d pn h1 h2 h3 => hsu a oe cls d pn C h1 h2 h3 (xf hfs) no) r
theorem c_pl {f : Sv} {s1 : Stmt} {rest : List Stmt} {np hp : Pos} {hds : List ExceptHandler} {l : List (Str × XSv)} (T : Hcl X.K X.mg c fs) (hsu : ∀ (a : Addr) (oe : Obj) (pn : List (Addr × Obj)), SSs (X.suite a ((a, oe) :: pn)) cl W0 (s1 :: rest) f) (r : Cla X cl hds l)
    (hg : Gl X c := by rfl) (hdb : (c == ("__debug__" : Str)) = false := by decide) : Cla X cl (.ExceptHandler (some (.Name c np)) none (s1 :: rest) hp :: hds) ((c, hPl f) :: l) := by
  obtain ⟨C, gm, hns, xf, no⟩ := T
  exact .pl ⟨hg, hdb, .inl gm⟩ hns hsu r
end
end Y
end

section
set_option Elab.async false
set_option linter.all false
set_option maxRecDepth 100000
set_option maxHeartbeats 2000000
/-! YMe: enumerate of a tuple. -/
namespace Y
open PySem PySem.Spec PyProof.Rows L2
theorem meets_enum1 {v : Value} {o : Obj} {G : Heap → Prop} (B : Begins v o G) :
    Meets (Builtin.«enumerate.__new__» ⟨[.type "enumerate", v], []⟩) (fun _ R st => G st.heap ∧
      R (.ok (.ret (.ref (st.heap.push o).objs.size))) { st with heap := (st.heap.push o).push { cls := .type "enumerate", data := .fields #[.none, .bool false, .ref st.heap.objs.size, rawInt 0, .none, .none] } }) :=
  .of_wp fun prog w A R st hyp => by
    obtain ⟨hp, gens, dr, tok, osS⟩ := st
    obtain ⟨hG, hyp⟩ := hyp
    have hsub := sub_enumerate
    have it1 : ∀ {A' : Around} {E : Value → Shared → Prop} {Q : Value → Shared → Prop}, Q (.ref hp.objs.size) ⟨hp.push o, gens, dr, tok, osS⟩ → wpAny (model prog w) A' (pyIter v) Q E ⟨hp, gens, dr, tok, osS⟩ := fun q =>
      B.iter prog w _ _ ⟨hp, gens, dr, tok, osS⟩ _ hG q
    wp_walk using it1
    refine wpAny_stack_any fun stk => wpAny_pure ?_
    split
    · rename_i c _ _ _ _ _
      cases (c == Value.type "enumerate") <;> (wp_walk using it1; exact ⟨_, rfl, hyp⟩)
    · wp_walk using it1
      exact ⟨_, rfl, hyp⟩
theorem enum1 {prog : Program} {w : World} {A : Around} {E : Value → Shared → Prop} {st : Shared} {v : Value} {o : Obj} {G : Heap → Prop} {Q : Value → Shared → Prop} (B : Begins v o G) (hG : G st.heap)
    (hyp : ∀ h2, IsEnum h2 (st.heap.objs.size + 1) st.heap.objs.size 0 .none → h2.get? st.heap.objs.size = some o → (∀ b u, st.heap.get? b = some u → h2.get? b = some u) → Q (.ref (st.heap.objs.size + 1)) { st with heap := h2 }) :
    wpAny (model prog w) A (call (.type "enumerate") [v]) Q E st := by
  refine callType_new F.called_enumerate (by decide) (F.typeCall_enumerate_1 _) (F.newCall_enumerate_1 _) (fun obj => F.args_object_init_2 obj _) F.entry_enumerate_new (meets_enum1 B) ⟨hG, ?_⟩
  have size1 : (st.heap.push o).objs.size = st.heap.objs.size + 1 := Heap.size_push ..
  show _ ∧ _
  rw [size1]
  have made := Heap.get?_push_size (st.heap.push o) (o := { cls := .type "enumerate", data := .fields #[.none, .bool false, .ref st.heap.objs.size, rawInt 0, .none, .none] }) rfl
  rw [size1] at made
  exact ⟨⟨_, made, rfl⟩, hyp _ made (Heap.get?_push_of_some _ (Heap.get?_push_size _ B.free)) fun b u q => Heap.get?_push_of_some _ (Heap.get?_push_of_some _ q)⟩
/-- the tuple at a, each item in a new pair -/
def IteT (K : PySem.W.Frag) (a : Addr) : It :=
  ⟨fun i H => ∃ (xs : List V) (x : V), SqT K H a xs ∧ xs[i]? = some x, fun i H v H' => ∃ T x, v = .ref T ∧ H T = none ∧ H' = upd H T (.tup [.int (i : Nat), x]) ∧ ∀ xs, SqT K H a xs → xs[i]? = some x, fun i H => ∃ xs : List V, SqT K H a xs ∧ xs.length = i⟩
theorem turn_enumT {P : Program} {w : World} {K : PySem.W.Frag} {elts : List Expr} {kk : Nat} {tpos : Pos} (a e it : Addr) :
    Turn P w K (.Tuple elts kk tpos) (IteT K a) [e, it] e (fun i h => (∃ old, IsEnum h e it ((i : Nat) : Int) old) ∧ h.IsTupleIter it a i ∧ e ≠ it ∧ a ≠ it ∧ a ≠ e) where
  mem := by simp
  obj := fun i h st b hb => by
    obtain ⟨⟨old, he⟩, ⟨oi, hoi, hci, hdi⟩, _⟩ := st
    rcases (show b = e ∨ b = it by simpa using hb) with z | z
    · subst z; exact ⟨_, he, fun v q => nomatch q⟩
    · subst z; exact ⟨oi, hoi, fun v q => by rw [hdi] at q; cases q⟩
  keep := fun i h h' st kp => by
    obtain ⟨⟨old, he⟩, hi, apart⟩ := st
    exact ⟨⟨old, kp e (by simp) _ he⟩, hi.at fun o q => kp it (by simp) o q, apart⟩
  item := by
    intro X hP hw hK hc i pins st σ H E I hf tn hgo
    subst hP hw hK
    obtain ⟨⟨old, he⟩, hit, d1, d2, d3⟩ := tn
    obtain ⟨xs, x, hq, hx⟩ := hgo
    obtain ⟨its, rv, p, hz⟩ := I.tuple hq
    obtain ⟨u, hu, ru⟩ := rv.get hx
    have le : e < st.heap.objs.size := Heap.lt_size he
    have li : it < st.heap.objs.size := by obtain ⟨_, q, _⟩ := hit; exact Heap.lt_size q
    have hlt : i < its.toArray.size := by have := (List.getElem?_eq_some_iff.mp hu).1; simpa using this
    have it2 : st.heap.IsTuple a its.toArray := p
    refine wpAny_pyNext_enum_itemD (Draws.tuple (show X.A.in1.handled = none from I.ok.hd hc) it a d2 its.toArray) he ⟨hit, it2⟩ hlt d1 (by simp [d1, Ne.symm d3]) fun y h2 tk hy ho hst2 hT hsz hk => ?_
    have ey : y = u := by
      rw [show its.toArray[i]? = its[i]? by simp, hu] at hy
      exact (Option.some.inj hy).symm
    subst ey
    refine ⟨_, rfl, wpAny_letOwnedTupleGo_enum (s := { st with heap := h2, toks := tk + 1 }) ho fun h3 he3 sb => ?_⟩
    have tup3 : h3.get? st.heap.objs.size = some { cls := .type "tuple", data := .seq #[.int i tk, y] } := (sb.2 _ (Nat.ne_of_gt le)).trans hT
    have fresh : ObjOk X.prog X.w (upd H st.heap.objs.size (.tup [.int (i : Nat), x])) h3 st.heap.objs.size (.tup [.int (i : Nat), x]) :=
      ⟨by show 2 ≤ sizeLine; decide, [.int i tk, y], .cons ⟨_, rfl⟩ (.cons ru .nil), ⟨_, tup3, rfl, _, rfl⟩⟩
    have J : Inv X pins σ (upd H st.heap.objs.size (.tup [.int (i : Nat), x])) { st with heap := h3, toks := tk + 1 } :=
      I.turnedNew (ch := [e, it]) (fun b ob hb q => by
        simp only [List.mem_cons, List.not_mem_nil, or_false, not_or] at hb
        exact (sb.2 b hb.1).trans (hk b ob hb.1 hb.2 q)) hf (Nat.le_refl _) fresh
    refine ⟨.ref st.heap.objs.size, _, J, rfl, ⟨_, x, rfl, I.hok.fresh (Nat.le_refl _), rfl, fun ys hy => by rw [I.tuple_inj hy hq]; exact hx⟩, ⟨⟨y, ?_⟩, hst2.1.at fun o q => (sb.2 it (Ne.symm d1)).trans q, d1, d2, d3⟩, fun b hb => ?_⟩
    · rw [show ((i + 1 : Nat) : Int) = (i : Int) + 1 by omega]; exact he3
    · have lb : b < st.heap.objs.size := by
        rcases (show b = e ∨ b = it by simpa using hb) with z | z <;> subst z <;> assumption
      rw [upd_ne (Nat.ne_of_lt lb)]
      exact (hf b hb).1
  done := by
    intro X hP hw hK hc i pins st σ H E I hf tn hstop
    subst hP hw hK
    obtain ⟨⟨old, he⟩, hit, d1, d2, d3⟩ := tn
    obtain ⟨xs, hq, hx⟩ := hstop
    obtain ⟨its, rv, p, hz⟩ := I.tuple hq
    obtain ⟨f0, f1, f2, f3, f4, f5⟩ := hf it (by simp)
    have hn : i = its.toArray.size := by rw [← hx, rv.length]; simp
    subst hn
    exact wpAny_pyNext_enum_endD (Draws.tuple (show X.A.in1.handled = none from I.ok.hd hc) it a d2 its.toArray) he ⟨hit, p⟩ fun h2 eb => ⟨rfl, I.turned (t' := st.toks) (fun b o hb q => eb b o hb q) f0 f1 f3 f4 f5⟩
  self := fun A i st Q E tn h => by
    obtain ⟨⟨_, he⟩, _⟩ := tn
    exact wpAny_pyIter_enum he h
def iEnumA (K : PySem.W.Frag) (ta : TA) : TI := fun σ H R => ta σ H fun vs H1 => ∃ a xs, vs = [.ref a] ∧ ((SqL K H1 a xs ∧ R (Ite K a) H1) ∨ (SqT K H1 a xs ∧ R (IteT K a) H1))
theorem pi_enumA {X : Cx} {e : Expr} {ta : TA} {p pos tpos : Pos} {elts : List Expr} {kk : Nat} (hg : Gl X "enumerate") (hm : X.mg "enumerate" = none) (ha : PA X [e] ta) (hs : starEach [e] X.env = [(false, eval e X.env)] := by rfl) :
    PI X (.Tuple elts kk tpos) (.Call (.Name "enumerate" p) [e] [] pos) (iEnumA X.K ta) := by
  refine ⟨fun pins st σ H R I h => ?_⟩
  refine Call_ (ld_blt I hg hm boot_enumerate (PyProof.Rows.callWith_type1 (thn (ha.run pos pins st σ H _ I h) fun us s1 ⟨vs, H1, I1, r1, q1⟩ => ?_) hs rfl))
  obtain ⟨a, xs, ex, q⟩ := q1
  subst ex
  cases r1 with
  | cons r rr =>
    cases rr
    cases r
    have fpok : ∀ b ∈ [s1.heap.objs.size + 1, s1.heap.objs.size], FpOk X pins H1 b := fun b hb => by
      have le : s1.heap.objs.size ≤ b := by
        rcases (show b = s1.heap.objs.size + 1 ∨ b = s1.heap.objs.size by simpa using hb) with z | z <;> omega
      exact I1.fpOk le (I1.hok.fresh le)
    rcases q with ⟨hq, q⟩ | ⟨hq, q⟩
    · obtain ⟨its, rv, p', hz⟩ := I1.list hq
      refine call_enumerate_list p'.isList fun h2 he hit hsz hk => wpAny_pyIter_enum he ?_
      exact ⟨s1.heap.objs.size + 1, [s1.heap.objs.size + 1, s1.heap.objs.size], _, _, H1, rfl, I1.kept (t' := s1.toks) hk, turn_enum a (s1.heap.objs.size + 1) s1.heap.objs.size, ⟨⟨.none, he⟩, hit, Nat.succ_ne_self _⟩, fpok, q⟩
    · obtain ⟨its, rv, p', hz⟩ := I1.tuple hq
      have it2 : s1.heap.IsTuple a its.toArray := p'
      have la : a < s1.heap.objs.size := by obtain ⟨_, z, _⟩ := it2; exact Heap.lt_size z
      refine enum1 (begins_tuple a its.toArray) it2 fun h2 he hit hk => wpAny_pyIter_enum he ?_
      exact ⟨s1.heap.objs.size + 1, [s1.heap.objs.size + 1, s1.heap.objs.size], _, _, H1, rfl, I1.kept (t' := s1.toks) hk, turn_enumT a (s1.heap.objs.size + 1) s1.heap.objs.size, ⟨⟨.none, he⟩, ⟨_, hit, rfl, rfl⟩, Nat.succ_ne_self _, Nat.ne_of_lt la, Nat.ne_of_lt (Nat.lt_succ_of_lt la)⟩, fpok, q⟩
/-- enumerate(x): a list that is never changed, or a tuple -/
def numA : List D → Option (List D)
  | [.tup xs] => some (enumD 0 xs)
  | xs => numD xs
def iEnumV (a : Av) : Iv := fun σ h => (a σ h).bind fun xs h1 => ofO (numA xs) h1
section
variable {X : Cx} {cl : Nat → Addr} {W : WX} {a : Expr} {fa : Av} {pos : Pos}
theorem drv_enumT {K : PySem.W.Frag} {φ : List Addr} {H : Hp} {p : Addr} {xs : List D} {vs : List V} (h1 : ∀ H', Per H H' → SqT K H' p vs) (r1 : RepL K φ H xs vs) : Drv K φ H (IteT K p) (enumD 0 xs) := fun φ' H' h l R => by
  have q1 := RepL.mono l.pre l.per _ _ r1
  refine ⟨fun i d e => ?_, vs, h1 _ l.per, by rw [enum_len, q1.length]⟩
  obtain ⟨x, e1, rfl⟩ := enum_get e
  obtain ⟨v, z1, z2⟩ := q1.get e1
  refine ⟨⟨vs, v, h1 _ l.per, z1⟩, fun w H2 yl => ?_⟩
  obtain ⟨T, v', rfl, hT, rfl, y1⟩ := yl
  have w1 := y1 vs (h1 _ l.per)
  rw [z1] at w1
  cases w1
  rw [Nat.zero_add]
  exact pair_rep R hT (.int _) z2
theorem i_enumV {elts : List Expr} {kk : Nat} {tpos p : Pos} (hg : Gl X "enumerate") (hm : X.mg "enumerate" = none) (ha : SA X cl W [a] fa) (hs : starEach [a] X.env = [(false, eval a X.env)] := by rfl) :
    SI X cl W (.Tuple elts kk tpos) (.Call (.Name "enumerate" p) [a] [] pos) (iEnumV fa) := PI.of (pi_enumA hg hm ha hs) fun σ H R p => by
  obtain ⟨φ, st, h0, S, R0, P⟩ := p
  refine ⟨φ, st, h0, S, R0, ?_⟩
  simp only [iEnumV] at P
  cases e : fa st h0 with
  | bad => simp only [e, Rs.bind] at P
  | ex _ _ => simp only [e, Rs.bind] at P; exact P
  | ok xs h1 =>
    simp only [e, Rs.bind] at P
    intro φ1 H1 vs l1 r1 q1
    have other : numA xs = numD xs → ∃ a us, vs = [.ref a] ∧ ((SqL X.K H1 a us ∧ R (Ite X.K a) H1) ∨ (SqT X.K H1 a us ∧ R (IteT X.K a) H1)) := fun en => by
      rw [en] at P
      rcases xs with _ | ⟨x, _ | _⟩ <;> simp only [numD, ofO] at P
      cases f1 : frzOf x with
      | none => rw [f1] at P; exact P.elim
      | some a =>
        rw [f1] at P
        obtain ⟨v, rfl, rv⟩ := RepL.one q1
        obtain ⟨p, us, rfl, g1, g2⟩ := frz_at rv f1
        exact ⟨p, us, rfl, .inl ⟨g1 _ (Per.refl _), P φ1 H1 _ l1 r1 (drv_enum g1 g2)⟩⟩
    rcases xs with _ | ⟨x, _ | _⟩
    · exact other rfl
    · cases x with
      | tup ys =>
        simp only [numA, ofO] at P
        obtain ⟨v, rfl, rv⟩ := RepL.one q1
        cases rv with
        | tup g1 g2 => exact ⟨_, _, rfl, .inr ⟨SqT.of g1, P φ1 H1 _ l1 r1 (drv_enumT (fun H' p => SqT.of (p.tup _ _ g1)) g2)⟩⟩
      | _ => exact other rfl
    · exact other (by cases x <;> rfl)
end
end Y
end

section
set_option Elab.async false
set_option linter.all false
set_option maxRecDepth 100000
set_option maxHeartbeats 2000000
/-! YMd: dict comprehensions whose keys are tuples; sorted of such a dict. -/
namespace Y
open PySem PySem.Spec PyProof.Rows L2
section
variable {X : Cx} {pins : List (Addr × Obj)} {σ : L2.St} {H : Hp}
/-- the store -/
theorem put_dT {st : Shared} {E : Value → Shared → Prop} {D b : Addr} {kvs : List (List Key × V)} {ks : List Key} {z : V} {r : Value} {Q : Unit → Shared → Prop} (hu : X.A.units + 1 < cLine) (I : Inv X pins σ H st) (eD : H D = some (.dT kvs)) (lt : kvs.length < sizeLine)
    (eb : H b = some (.tup (ks.map kV))) (rz : RelV z r) (hq : ∀ st', Inv X pins σ (upd H D (.dT (putK kvs ks z))) st' → Q () st') : wpAny (model X.prog X.w) X.A (dictSet D (.ref b) r) Q E st := by
  obtain ⟨le, nd, xs, rel, dd⟩ := dt_of I.hok eD
  have sz : xs.length ≤ sizeLine := (Paired.length rel) ▸ le
  refine wpAny_dictSet_heap (hsz := sz) (knd := tupleKind (mixKind X.prog X.w)) (Nat.lt_of_succ_lt hu) (key_of I.hok eb) dd fun h2 ⟨q, es, ep, hq2, x2, x3, x4, _, x5⟩ same => hq _ ?_
  refine d_write I (by rw [eD]; trivial) same ⟨q, hq2⟩ ⟨?_, nd, _, (rel.put ks eb rz).keeps fun c ys ec => ?_, q, es, ep, hq2, x2, x3, x4, x5⟩
  · have := length_putK kvs ks z
    omega
  · rw [upd_ne (ne_of ec eD (fun z => nomatch z))]
    exact ec
/-- what is wished of {k: v for target in iter if ..}, the keys tuples -/
def tDcT (wi : TI) (g : TG) (tt : TT) (tk tv : TE) (vs : List Nat) : TE := fun σ H Q => wi σ H fun J H1 => ∀ D, H1 D = none → ∃ S : Nat → Nat → Hp → Prop, (∃ m, S 0 m (upd H1 D (.dT []))) ∧ ∀ i m Ha, S i m Ha →
  (J.stop i Ha ∧ Q (.ref D) Ha) ∨ (J.go i Ha ∧ ∃ After : Hp → Prop, (∀ Hb, After Hb → ∃ m', m' < m ∧ S (i + 1) m' Hb) ∧ ∀ x Hb, J.yld i Ha x Hb → g x (wipe σ vs) Hb fun τ Hc => wipe τ vs = wipe σ vs ∧ tt τ Hc fun c Hd =>
    if c = true then tk τ Hd fun y He => tv τ He fun z Hf => ∃ b kvs ks, y = .ref b ∧ Hf b = some (.tup (ks.map kV)) ∧ Hf D = some (.dT kvs) ∧ kvs.length < sizeLine ∧ After (upd Hf D (.dT (putK kvs ks z))) else After Hd)
end
section
variable {X : Cx} {kx vx tg iter : Expr} {ifs : List Expr} {scope : Scope} {own : List (Str × Nat)} {pos : Pos} {wi : TI} {g : TG} {tt : TT} {tk tv : TE}
/-- the laps, in the block's own frame -/
theorem dcT_laps {foot : List Addr} {J : It} {it D : Addr} {tn : Nat → Heap → Prop} {vs : List Nat} {σ : L2.St} {R : Result → Shared → Prop} {S : Nat → Nat → Hp → Prop} (hu : X.A.units + 1 < cLine) (hc : X.calm = true) (hx : X.xe = fun _ _ => False) (T : Turn X.prog X.w X.K tg J foot it tn)
    (fpOk : ∀ {τ : L2.St} {Ha : Hp} {st : Shared}, Inv X [] τ Ha st → (∀ b ∈ foot, Ha b = none) → ∀ b ∈ foot, FpOk X [] Ha b) (pg : PG X tg g) (pt : PTs X ifs tt) (pk : PE X kx tk) (pv : PE X vx tv)
    (lap : ∀ i m Ha, S i m Ha → (J.stop i Ha ∧ ∀ st, Inv X [] (wipe σ vs) Ha st → R (.ok .next) st) ∨ (J.go i Ha ∧ ∃ After : Hp → Prop, (∀ Hb, After Hb → ∃ m', m' < m ∧ S (i + 1) m' Hb) ∧ ∀ x Hb, J.yld i Ha x Hb → g x (wipe σ vs) Hb fun τ Hc => wipe τ vs = wipe σ vs ∧ tt τ Hc fun c Hd =>
      if c = true then tk τ Hd fun y He => tv τ He fun z Hf => ∃ b kvs ks, y = .ref b ∧ Hf b = some (.tup (ks.map kV)) ∧ Hf D = some (.dT kvs) ∧ kvs.length < sizeLine ∧ After (upd Hf D (.dT (putK kvs ks z))) else After Hd))
    {m : Nat} {H0 : Hp} {st0 : Shared} (I0 : Inv X [] (wipe σ vs) H0 st0) (t0 : tn 0 st0.heap) (n0 : ∀ b ∈ foot, H0 b = none) (s0 : S 0 m H0) :
    codeAny (model X.prog X.w) X.A (.compLoop (.DictComp kx vx [⟨tg, iter, ifs, 0⟩] scope pos) 0 (.ref it) (.ref D) X.env) R st0 := by
  have cv : ∀ {α : Type} {t : Sem α} {Q : α → Shared → Prop} {st : Shared}, wpAny (model X.prog X.w) X.A t Q X.xe st → wpAny (model X.prog X.w) X.A t Q (fun _ _ => False) st := fun h => by rw [hx] at h; exact h
  refine compLoop_anyD (fun m st => ∃ i Ha, Inv X [] (wipe σ vs) Ha st ∧ tn i st.heap ∧ (∀ b ∈ foot, Ha b = none) ∧ S i m Ha) (fun m st inv => ?_) m ⟨0, H0, I0, t0, n0, s0⟩
  obtain ⟨i, Ha, I, ti, ni, si⟩ := inv
  rcases lap i m Ha si with ⟨stop, done⟩ | ⟨go, After, next, body⟩
  · exact thnF (T.done X rfl rfl rfl hc i [] st _ Ha (fun _ _ => False) I (fpOk I ni) ti stop) fun r st1 ⟨er, I1⟩ => by subst er; exact done st1 I1
  · refine thnF (T.item X rfl rfl rfl hc i [] st _ Ha (fun _ _ => False) I (fpOk I ni) ti go) fun r st1 ⟨u, er, h1⟩ => ?_
    subst er
    refine thnF h1 fun _ st2 ⟨x, Hb, I2, rx, yx, t2, n2⟩ => ?_
    refine thnF (cv (pg.run _ st2 _ Hb x u _ (I2.pinned (fpOk I2 n2) (T.obj _ _ t2)) rx (body x Hb yx))) fun _ st3 ⟨τ, Hc, I3, same, q3⟩ => thnF (cv (pt.run _ st3 τ Hc _ I3 q3)) fun c st4 ⟨Hd, I4, q4⟩ => ?_
    have stay : ∀ b ∈ foot, ∀ {st' : Shared} {H' : Hp}, Inv X ([] ++ pinsAt foot st2.heap) τ H' st' → ∀ o, st2.heap.get? b = some o → st'.heap.get? b = some o ∧ H' b = none := fun b hb st' H' I' o e => by
      have z := I'.pin (b, o) (List.mem_append_right _ (List.mem_append_right _ (mem_pinsAt hb e)))
      exact ⟨z.1, z.2.1⟩
    have close : ∀ {st' : Shared} {H' : Hp}, Inv X ([] ++ pinsAt foot st2.heap) τ H' st' → After H' → ∃ m', m' < m ∧ ∃ i Ha, Inv X [] (wipe σ vs) Ha st' ∧ tn i st'.heap ∧ (∀ b ∈ foot, Ha b = none) ∧ S i m' Ha := by
      intro st' H' I' af
      obtain ⟨m', lt, s'⟩ := next H' af
      refine ⟨m', lt, i + 1, H', (I'.unpinned (pins := [])).weak (by rw [← same, wipe_length]) (fun j v e => ?_), T.keep _ _ _ t2 fun b hb o e => (stay b hb I' o e).1, fun b hb => ?_, s'⟩
      · rw [← same] at e
        exact (wipe_some e).1
      · obtain ⟨o, e, _⟩ := T.obj _ _ t2 b hb
        exact (stay b hb I' o e).2
    cases c with
    | false =>
      rw [if_neg Bool.false_ne_true] at q4 ⊢
      exact close I4 q4
    | true =>
      rw [if_pos rfl] at q4 ⊢
      refine thnF (cv (pk.run _ st4 τ Hd _ I4 q4)) fun z1 st5 ⟨yk, He, I5, r5, q5⟩ => thnF (cv (pv.run _ st5 τ He _ I5 q5)) fun z2 st6 ⟨yv, Hf, I6, r6, b, kvs, ks, ek, eb, eD, lt, af⟩ => ?_
      subst ek
      cases (show z1 = Value.ref b from r5)
      exact put_dT hu I6 eD lt eb r6 fun st7 I7 => close I7 af
theorem dcT_core {pins : List (Addr × Obj)} {s : Shared} {σ : L2.St} {H : Hp} {Q : VK} {pos' : Pos} {use : Option (Value → Sem Unit)} {Qf : Value → Shared → Prop} (hu : X.A.units + 1 < cLine) (hc : X.calm = true) (hN : X.N.Nodup) (I : Inv X pins σ H s) (hi : PI X tg iter wi) (ok : BlkOk X.N X.env.scope scope own)
    (pg : ∀ (s : Shared) (H : Hp) (C : Addr) (cl : List (Str × Addr)) (fp : List Addr), PG (X.blk s H scope (compEnvC scope cl C X.env) fp) tg g) (pt : ∀ (s : Shared) (H : Hp) (C : Addr) (cl : List (Str × Addr)) (fp : List Addr), PTs (X.blk s H scope (compEnvC scope cl C X.env) fp) ifs tt)
    (pk : ∀ (s : Shared) (H : Hp) (C : Addr) (cl : List (Str × Addr)) (fp : List Addr), PE (X.blk s H scope (compEnvC scope cl C X.env) fp) kx tk) (pv : ∀ (s : Shared) (H : Hp) (C : Addr) (cl : List (Str × Addr)) (fp : List Addr), PE (X.blk s H scope (compEnvC scope cl C X.env) fp) vx tv)
    (hs : ∀ x, foldedSetIterable iter X.env x = pure x) (h : tDcT wi g tt tk tv (own.map (·.2)) σ H Q)
    (hRR : ∀ D C s' m H', Inv X pins σ H' s' → Q (.ref D) H' → s'.heap.Ns C m → FpOk X pins H' C → compPost (model X.prog X.w) X.A X.xe use Qf (.ref D) C (.ok .next) s') :
    wpAny (model X.prog X.w) X.A (comprehension (.DictComp kx vx [⟨tg, iter, ifs, 0⟩] scope pos) scope X.env pos' newDict false (eval iter X.env) use) Qf X.xe s := by
  have free : ∀ y ∈ scope.names, y.2 = .free → ∃ c, X.env.cells.lookup y.1 = some c := fun y hy e => (ok.free y hy e).elim (fun k => I.ok.has _ (.inl k)) fun k => I.ok.has _ (.inr k)
  refine wpAny_comprehension_free (use := use) rfl hs (closure_ok free) ok.kind (fun y hy e => by rw [ok.uniq y hy, e]) (thn (hi.run pins s σ H _ I h) fun _ sa ha => thn ha fun _ sb hb => ?_)
  obtain ⟨it, fp, tn, J, Hb, rfl, Ib, T, tb, fb, q⟩ := hb
  refine wpAny_newObj_type (newEnv_comp ?_)
  have nD : Hb sb.heap.objs.size = none := Ib.hok.fresh (Nat.le_refl _)
  obtain ⟨S, ⟨m0, s0⟩, lap⟩ := q _ nD
  generalize eSc : ({ sb with heap := sb.heap.push { cls := .type "dict", data := .dict #[] } } : Shared) = sc
  have eH : sc.heap = sb.heap.push { cls := .type "dict", data := .dict #[] } := by rw [← eSc]
  have Ic : Inv X pins σ (upd Hb sb.heap.objs.size (.dT [])) sc := eSc ▸ Ib.laid (t' := sb.toks) (fun b o e => Heap.get?_push_of_some _ e) (Nat.le_refl _) (dt_empty sb.heap Ib.big)
  have below : ∀ b ∈ fp, b < sb.heap.objs.size := fun b hb => by
    obtain ⟨o, e, _⟩ := T.obj _ _ tb b hb
    exact Heap.lt_size e
  have fc : ∀ b ∈ fp, FpOk X pins (upd Hb sb.heap.objs.size (.dT [])) b ∧ b < sc.heap.objs.size := fun b hb => by
    have l := below b hb
    refine ⟨⟨?_, (fb b hb).2⟩, by rw [eH, Heap.size_push]; exact Nat.lt_succ_of_lt l⟩
    rw [upd_ne (Nat.ne_of_lt l)]
    exact (fb b hb).1
  generalize upd Hb sb.heap.objs.size (.dT []) = Hc at Ic fc s0
  have Id := block_start Ic ok hN fc
  have kg := pg sc Hc sc.heap.objs.size (cellsFrom (sc.heap.objs.size + 1) scope.names (cloFrom X.env.cells scope.names [])) fp
  have kt := pt sc Hc sc.heap.objs.size (cellsFrom (sc.heap.objs.size + 1) scope.names (cloFrom X.env.cells scope.names [])) fp
  have kk := pk sc Hc sc.heap.objs.size (cellsFrom (sc.heap.objs.size + 1) scope.names (cloFrom X.env.cells scope.names [])) fp
  have kv := pv sc Hc sc.heap.objs.size (cellsFrom (sc.heap.objs.size + 1) scope.names (cloFrom X.env.cells scope.names [])) fp
  show codeAny _ _ (.compStart (.DictComp kx vx [⟨tg, iter, ifs, 0⟩] scope pos) 0 (.ref it) (.ref sb.heap.objs.size) (compEnvC scope (cellsFrom (sc.heap.objs.size + 1) scope.names (cloFrom X.env.cells scope.names [])) sc.heap.objs.size X.env)) _ { sc with heap := pushCells (sc.heap.push { cls := .type "dict", data := .dict #[] }) scope.names }
  generalize eEnv : compEnvC scope (cellsFrom (sc.heap.objs.size + 1) scope.names (cloFrom X.env.cells scope.names [])) sc.heap.objs.size X.env = env at Id kg kt kk kv ⊢
  have locals : env.locals = sc.heap.objs.size := by subst eEnv; rfl
  have td0 : tn 0 (pushCells (sc.heap.push { cls := .type "dict", data := .dict #[] }) scope.names) := T.keep _ _ _ tb fun b _ o e => pushCells_keeps _ _ _ _ (Heap.get?_push_of_some _ (eH ▸ Heap.get?_push_of_some _ e))
  have laps := dcT_laps (X := X.blk sc Hc scope env fp) (iter := iter) (pos := pos) (scope := scope) (it := it) (D := sb.heap.objs.size) (S := S) (vs := own.map (·.2)) (σ := σ) (R := compPost (model X.prog X.w) X.A X.xe use Qf (.ref sb.heap.objs.size) sc.heap.objs.size) hu hc rfl T
    (fun {τ Ha st} I' hn b hb => ⟨hn b hb, (I'.ok.exf b hb).1, I'.ok.exfs b hb, .inl hb, fun x c e => (I'.ok.exf b hb).2 x c e, fun p hp => absurd (show p ∈ ([] : List (Addr × Obj)) ++ [] from hp) (by simp)⟩) kg kt kk kv (fun i m Ha si => ?_) Id td0 (fun b hb => (fc b hb).1.1) s0
  · exact codeAny_compStart_dict laps (T.self X.A 0 _ _ _ td0 laps)
  · rcases lap i m Ha si with ⟨stop, qq⟩ | go
    · refine .inl ⟨stop, fun st I6 => ?_⟩
      have I7 : Inv X pins σ Ha st := Ic.call' (ch := fp) I6.os I6.base I6.hok I6.bare fun b hb => ⟨(fc b hb).1.2.2.2.1, (fc b hb).1.2.1, (fc b hb).1.2.2.2.2.1, (fc b hb).1.2.2.2.2.2⟩
      have nC : Ha sc.heap.objs.size = none := locals ▸ I6.free
      obtain ⟨mm, hn, _⟩ := I6.loc
      exact hRR _ _ st mm Ha I7 qq (locals ▸ hn) (Ic.fpOk (Nat.le_refl _) nC)
    · exact .inr go
/-- {k: v for ..}, the keys tuples -/
theorem pe_dcT (hu : X.A.units + 1 < cLine) (hc : X.calm = true) (hN : X.N.Nodup) (hi : PI X tg iter wi) (ok : BlkOk X.N X.env.scope scope own)
    (pg : ∀ (s : Shared) (H : Hp) (C : Addr) (cl : List (Str × Addr)) (fp : List Addr), PG (X.blk s H scope (compEnvC scope cl C X.env) fp) tg g) (pt : ∀ (s : Shared) (H : Hp) (C : Addr) (cl : List (Str × Addr)) (fp : List Addr), PTs (X.blk s H scope (compEnvC scope cl C X.env) fp) ifs tt)
    (pk : ∀ (s : Shared) (H : Hp) (C : Addr) (cl : List (Str × Addr)) (fp : List Addr), PE (X.blk s H scope (compEnvC scope cl C X.env) fp) kx tk) (pv : ∀ (s : Shared) (H : Hp) (C : Addr) (cl : List (Str × Addr)) (fp : List Addr), PE (X.blk s H scope (compEnvC scope cl C X.env) fp) vx tv)
    (hs : ∀ x, foldedSetIterable iter X.env x = pure x := by intro _; rfl) : PE X (.DictComp kx vx [⟨tg, iter, ifs, 0⟩] scope pos) (tDcT wi g tt tk tv (own.map (·.2))) := by
  refine ⟨fun pins s σ H Q I h => ?_⟩
  rw [arm_eval_DictComp]
  refine dcT_core hu hc hN I hi ok pg pt pk pv hs h fun D C s' m H' I' q hn f => ⟨m, hn, fun h'' sb => ?_⟩
  obtain ⟨f0, f1, f2, f3, f4, f5⟩ := f
  exact ⟨.ref D, H', I'.turned (t' := s'.toks) (fun b o hb e => (sb.2 b hb).trans e) f0 f1 f3 f4 f5, rfl, q⟩
/-- name = {k: v for ..} on one line, the name a local; the same with tuples as keys -/
theorem ps_setDc {i : Nat} {y : Str} {py spos : Pos} (hc : X.calm = true) (hN : X.N.Nodup) (hy : X.N[i]? = some y) (hyl : X.env.scope.names.lookup y = some .local)
    (hsw : swapsWith (.DictComp kx vx [⟨tg, iter, ifs, 0⟩] scope pos) (some (.Name y py)) spos.line X.env = pure true) (hi : PI X tg iter wi) (ok : BlkOk X.N X.env.scope scope own)
    (pg : ∀ (s : Shared) (H : Hp) (C : Addr) (cl : List (Str × Addr)) (fp : List Addr), PG (X.blk s H scope (compEnvC scope cl C X.env) fp) tg g) (pt : ∀ (s : Shared) (H : Hp) (C : Addr) (cl : List (Str × Addr)) (fp : List Addr), PTs (X.blk s H scope (compEnvC scope cl C X.env) fp) ifs tt)
    (pk : ∀ (s : Shared) (H : Hp) (C : Addr) (cl : List (Str × Addr)) (fp : List Addr), PE (X.blk s H scope (compEnvC scope cl C X.env) fp) kx tk) (pv : ∀ (s : Shared) (H : Hp) (C : Addr) (cl : List (Str × Addr)) (fp : List Addr), PE (X.blk s H scope (compEnvC scope cl C X.env) fp) vx tv)
    (hs : ∀ x, foldedSetIterable iter X.env x = pure x := by intro _; rfl) :
    PS X (.Assign [.Name y py] (.DictComp kx vx [⟨tg, iter, ifs, 0⟩] scope pos) spos) (tAsg (tDc wi g tt tk tv (own.map (·.2))) (gName i)) := by
  refine ⟨fun pins s σ H D I h => ?_⟩
  rw [exec_Assign_Name_used _ _ _ _ hsw]
  refine wpAny_bind (wpAny_standAt (wpAny_bind ?_))
  show wpAny _ X.A (do let _ ← comprehension (.DictComp kx vx [⟨tg, iter, ifs, 0⟩] scope pos) scope X.env (firstIterPos [⟨tg, iter, ifs, 0⟩] pos) newDict false (eval iter X.env) (some (assign (.Name y py) X.env))) _ _ s
  have h : tDc wi g tt tk tv (own.map (·.2)) σ H (fun x H1 => gName i x σ H1 D.nx) := h
  refine wpAny_bind (thn (dc_core (Qf := fun _ s' => SP X pins D .next s') hc hN I hi ok pg pt pk pv hs h fun L C s' m H' I' q hn f => ?_) fun _ s' hq => wpAny_pure (wpAny_pure hq))
  show wpAny _ _ (assign (.Name y py) X.env (.ref L)) _ _ _
  refine wpAny_assign_Name (store_ok2 (v := V.ref L) I' hN hy (.inl hyl) rfl (fun s2 I2 ⟨a, sb, ha⟩ => ?_) (.inr hyl))
  obtain ⟨f0, f1, f2, f3, f4, f5⟩ := f
  have haC : C ≠ a := by
    rcases ha with z | z
    · rw [z]; exact f1
    · exact fun e => f4 y a z e.symm
  refine ⟨m, hn.sameBut sb haC, fun h3 sb3 => ?_⟩
  exact ⟨_, H', I2.turned (t' := s2.toks) (fun b o hb e => (sb3.2 b hb).trans e) f0 f1 f3 f4 f5, q⟩
theorem ps_setDcT {i : Nat} {y : Str} {py spos : Pos} (hu : X.A.units + 1 < cLine) (hc : X.calm = true) (hN : X.N.Nodup) (hy : X.N[i]? = some y) (hyl : X.env.scope.names.lookup y = some .local)
    (hsw : swapsWith (.DictComp kx vx [⟨tg, iter, ifs, 0⟩] scope pos) (some (.Name y py)) spos.line X.env = pure true) (hi : PI X tg iter wi) (ok : BlkOk X.N X.env.scope scope own)
    (pg : ∀ (s : Shared) (H : Hp) (C : Addr) (cl : List (Str × Addr)) (fp : List Addr), PG (X.blk s H scope (compEnvC scope cl C X.env) fp) tg g) (pt : ∀ (s : Shared) (H : Hp) (C : Addr) (cl : List (Str × Addr)) (fp : List Addr), PTs (X.blk s H scope (compEnvC scope cl C X.env) fp) ifs tt)
    (pk : ∀ (s : Shared) (H : Hp) (C : Addr) (cl : List (Str × Addr)) (fp : List Addr), PE (X.blk s H scope (compEnvC scope cl C X.env) fp) kx tk) (pv : ∀ (s : Shared) (H : Hp) (C : Addr) (cl : List (Str × Addr)) (fp : List Addr), PE (X.blk s H scope (compEnvC scope cl C X.env) fp) vx tv)
    (hs : ∀ x, foldedSetIterable iter X.env x = pure x := by intro _; rfl) :
    PS X (.Assign [.Name y py] (.DictComp kx vx [⟨tg, iter, ifs, 0⟩] scope pos) spos) (tAsg (tDcT wi g tt tk tv (own.map (·.2))) (gName i)) := by
  refine ⟨fun pins s σ H D I h => ?_⟩
  rw [exec_Assign_Name_used _ _ _ _ hsw]
  refine wpAny_bind (wpAny_standAt (wpAny_bind ?_))
  show wpAny _ X.A (do let _ ← comprehension (.DictComp kx vx [⟨tg, iter, ifs, 0⟩] scope pos) scope X.env (firstIterPos [⟨tg, iter, ifs, 0⟩] pos) newDict false (eval iter X.env) (some (assign (.Name y py) X.env))) _ _ s
  have h : tDcT wi g tt tk tv (own.map (·.2)) σ H (fun x H1 => gName i x σ H1 D.nx) := h
  refine wpAny_bind (thn (dcT_core (Qf := fun _ s' => SP X pins D .next s') hu hc hN I hi ok pg pt pk pv hs h fun L C s' m H' I' q hn f => ?_) fun _ s' hq => wpAny_pure (wpAny_pure hq))
  show wpAny _ _ (assign (.Name y py) X.env (.ref L)) _ _ _
  refine wpAny_assign_Name (store_ok2 (v := V.ref L) I' hN hy (.inl hyl) rfl (fun s2 I2 ⟨a, sb, ha⟩ => ?_) (.inr hyl))
  obtain ⟨f0, f1, f2, f3, f4, f5⟩ := f
  have haC : C ≠ a := by
    rcases ha with z | z
    · rw [z]; exact f1
    · exact fun e => f4 y a z e.symm
  refine ⟨m, hn.sameBut sb haC, fun h3 sb3 => ?_⟩
  exact ⟨_, H', I2.turned (t' := s2.toks) (fun b o hb e => (sb3.2 b hb).trans e) f0 f1 f3 f4 f5, q⟩
end
end Y
end

section
set_option Elab.async false
set_option linter.all false
set_option maxRecDepth 100000
set_option maxHeartbeats 2000000
/-! YMs: sorted of a dict whose keys are tuples of ints; the rule of its comprehension over Y. -/
namespace Y
open PySem PySem.Spec PyProof.Rows L2 PySem.Calls PyProof.V
def keyD : Key → D
  | .inl i => .int i
  | .inr x => .str x
def keysD (h : Hm) (d : D) : Option (List D) := (dtuOf h d).map fun kvs => kvs.map fun kv => .tup (kv.1.map keyD)
/-- sorted(x): a list, or a dict with tuples as keys -/
def mSortA (h : Hm) : List D → Option (List D)
  | [d] => match keysD h d with
    | some ks => sortD ks
    | none => mSorted h [d]
  | xs => mSorted h xs
section
variable {X : Cx} {k : Nat}
theorem rep_keys {K : PySem.W.Frag} {φ : List Addr} {H : Hp} : ∀ ks : List Key, RepL K φ H (ks.map keyD) (ks.map kV)
  | [] => .nil
  | .inl i :: ks => .cons (.int i) (rep_keys ks)
  | .inr x :: ks => .cons (.str x) (rep_keys ks)
/-- sorted(d), by what the keys stand for -/
theorem sort_src (c0 : Cs k X) {β : Type} {enc : β → PyData} {toD : β → D} (hpy : ∀ h b, py h (toD b) = some (enc b)) {bs : List β} (hal : PySem.W.AllAlike (bs.map enc)) (hk : PySem.W.Sortable (bs.map enc)) (hd : ∀ b ∈ bs, (enc b).depth ≤ 64)
    {φ : List Addr} {H : Hp} {a : Addr} {kvs : List (List Key × V)} (ha : H a = some (.dT kvs)) (hb : bs.map toD = kvs.map fun kv => .tup (kv.1.map keyD)) :
    CallR X (.builtin "sorted") (fun us H' Q => us = [.ref a] ∧ H' = H ∧ ∀ p vs', H p = none → RepL X.K φ H ((bs.mergeSort (PySem.W.dataLe false enc)).map toD) vs' → Q (.ref p) (upd H p (.lst vs'))) := by
  intro pins s σ H1 xs us Q I r1 hh
  obtain ⟨rfl, rfl, q⟩ := hh
  rw [Vals.ref1 r1]
  obtain ⟨z, hs, ks, pr, o, es, ep, ho, hx, hdt, he, _⟩ := (show ObjOk X.prog X.w H1 s.heap a (.dT kvs) from I.hok a _ ha)
  have l1 : es.size = ks.length := size_of_entries he
  have l2 : kvs.length = ks.length := Paired.length pr
  have rep : ∀ {kvs : List (List Key × V)} {ks : List (List Key × Addr × Value)} {bs : List β}, Paired (fun (p : List Key × V) (q : List Key × Addr × Value) => p.1 = q.1 ∧ H1 q.2.1 = some (.tup (p.1.map kV)) ∧ RelV p.2 q.2.2) kvs ks → (bs.map toD = kvs.map fun kv => .tup (kv.1.map keyD)) →
      PySem.W.EachIs (fun u b => ∃ v, RelV v u ∧ Rep X.K φ H1 (toD b) v) (ks.map fun x => Value.ref x.2.1) bs := by
    intro kvs ks bs r
    induction r generalizing bs with
    | nil =>
      intro e
      cases bs with
      | nil => exact .nil
      | cons b bs => cases e
    | @cons p q kvs ks h1 _ ih =>
      intro e
      cases bs with
      | nil => cases e
      | cons b bs =>
        simp only [List.map_cons, List.cons.injEq] at e
        refine .cons ⟨.ref q.2.1, rfl, ?_⟩ (ih e.2)
        rw [e.1]
        exact .tup h1.2.1 (rep_keys _)
  refine call_function_entry kind_sorted plain_sorted entry_sorted (args_sorted1 _) ?_
  unfold Builtin.«sorted»
  refine wpAny_bind (m := checkCount "sorted" 1 1 _) (wpAny_pure (wpAny_bind (PySem.W.kdu_collect (A := X.A.in1) (kdl_raw hs hx hdt) (I.ok.hd c0.calm) ho (by omega) fun h' tk acc keep items => ?_)))
  have ea : acc.toList = ks.map fun x => Value.ref x.2.1 := by
    have hl : acc.toList.length = ks.length := by rw [Array.length_toList, items.1]; exact l1
    apply List.ext_getElem?
    intro j
    rw [List.getElem?_map]
    by_cases lt : j < ks.length
    · have hj : acc.toList[j]? = some acc.toList[j] := List.getElem?_eq_getElem (by omega)
      obtain ⟨en, hen, hv⟩ := items.2 j _ (by rw [← Array.getElem?_toList]; exact hj)
      have qe := entry_at he j
      rw [hen, List.getElem?_eq_getElem lt] at qe
      rw [hj, hv, List.getElem?_eq_getElem lt, show en = entryOfKey (tupleKind (mixKind X.prog X.w)) ks[j] from Option.some.inj qe]
      rfl
    · rw [List.getElem?_eq_none (by omega), List.getElem?_eq_none (by omega)]
      rfl
  have e0 := rep pr hb
  rw [← ea] at e0
  have I1 : Inv X pins σ H1 { s with heap := h', toks := tk } := I.kept keep
  have hlen : bs.length ≤ sizeLine := by
    have := congrArg List.length hb
    simp only [List.length_map] at this
    omega
  have hacc : acc.toList.length = bs.length := by
    have := congrArg List.length hb
    simp only [List.length_map] at this
    rw [ea, List.length_map]
    omega
  refine wpAny_bind (wpAny_newList ?_ (by rw [hacc]; exact hlen))
  have ho2 : (h'.push { cls := .type "list", data := .seq acc.toList.toArray }).get? h'.objs.size = some (seqObj "list" acc.toList.toArray 0) := Heap.get?_push_size _ rfl
  have kp2 : ∀ b u, h'.get? b = some u → (h'.push { cls := .type "list", data := .seq acc.toList.toArray }).get? b = some u := fun b u e => Heap.get?_push_of_some _ e
  have I2 : Inv X pins σ H1 { s with heap := h'.push { cls := .type "list", data := .seq acc.toList.toArray }, toks := tk } := I1.kept (t' := tk) kp2
  have er : PySem.W.EachIs (fun u b => ∃ as, Reads (h'.push { cls := .type "list", data := .seq acc.toList.toArray }) u (enc b) as ∧ h'.objs.size ∉ as) acc.toList bs := e0.mono fun u b ⟨v, r, q⟩ => by
    obtain ⟨as, rd⟩ := Dp.reads I1 _ _ _ (Rep.dp (toD b) v (enc b) (hpy [] b) q) r
    refine ⟨as, PyProof.Rows.Reads.keeps kp2 rd, fun m => ?_⟩
    obtain ⟨o, e⟩ := PyProof.On.reads_mem_get rd _ m
    exact absurd (Heap.lt_size e) (Nat.lt_irrefl _)
  have hu := c0.room.un
  have sorted := PySem.W.list_sort_data (prog := X.prog) (w := X.w) (A := X.A.in1) (E := X.xe) (s := { s with heap := h'.push { cls := .type "list", data := .seq acc.toList.toArray }, toks := tk }) (Q := fun _ s' => EP X pins σ Q (.ref h'.objs.size) s') ho2 e0 er hal hk hlen
    (fun b hb => by have := hd b hb; show X.A.units + 1 + 1 + (enc b).depth < cLine; omega) fun out lo eo => ?_
  · exact wpAny_bind (wpAny_holding (wpAny_mono sorted (fun _ s' x => wpAny_pure ⟨_, rfl, x⟩) fun _ _ e => e))
  · obtain ⟨ep2, heq⟩ := PyProof.Rows.sortedHeap_at (vs := acc.toList) (out := out.toArray) ho2
    have back : ∀ {out : List Value} {bs : List β}, PySem.W.EachIs (fun u b => ∃ v, RelV v u ∧ Rep X.K φ H1 (toD b) v) out bs → ∃ vs', Vals vs' out ∧ RepL X.K φ H1 (bs.map toD) vs' := by
      intro out bs r
      induction r with
      | nil => exact ⟨[], .nil, .nil⟩
      | cons h1 _ ih =>
        obtain ⟨v, r1, r2⟩ := h1
        obtain ⟨vs', r3, r4⟩ := ih
        exact ⟨v :: vs', .cons r1 r3, .cons r2 r4⟩
    obtain ⟨vs', v1, v2⟩ := back eo
    have hl2 : vs'.length ≤ sizeLine := by rw [v1.length, lo]; exact hlen
    refine ⟨.ref _, upd H1 h'.objs.size (.lst vs'), I1.laid (t' := tk) (fun b u e => ?_) (Nat.le_refl _) ⟨hl2, out, ep2, v1, by simpa using heq⟩, rfl, q _ _ (I1.hok.fresh (Nat.le_refl _)) v2⟩
    exact (PyProof.Rows.sortedHeap_old (Nat.ne_of_lt (Heap.lt_size e)) (Heap.lt_size (kp2 b u e))).trans (kp2 b u e)
theorem c_sortA (c0 : Cs k X) : CaL X (.builtin "sorted") mSortA := fun pins s σ H vs us Q I r w => by
  obtain ⟨cl, We, φ, hh, xs, R, q, P⟩ := w
  have other : mSortA hh xs = mSorted hh xs → wpAny (model X.prog X.w) X.A (call (.builtin "sorted") us) (EP X pins σ Q) X.xe s := fun e => by
    rw [e] at P
    exact c_sorted c0 pins s σ H vs us Q I r ⟨cl, We, φ, hh, xs, R, q, P⟩
  rcases xs with _ | ⟨d, _ | _⟩
  · exact other rfl
  · cases ek : keysD hh d with
    | none => exact other (by simp only [mSortA, ek])
    | some ks =>
      simp only [mSortA, ek] at P
      unfold keysD at ek
      obtain ⟨kvs, e1, e2⟩ := Option.map_eq_some_iff.mp ek
      obtain ⟨v, rfl, rd⟩ := q.one
      cases rd <;> simp only [dtuOf] at e1 <;> try (cases e1; done)
      rename_i n a hk
      obtain ⟨ob, h3, h4⟩ := R.at hk
      rw [h3] at e1
      cases h4 with
      | lst _ _ => cases e1
      | dct _ _ => cases e1
      | @dtu kvs' vs' hd rr =>
        simp only [Option.some.injEq] at e1
        subst e1
        have ev : ks = vs'.map fun kv => D.tup (kv.1.map keyD) := by
          rw [← e2]
          have : ∀ {xs : List (List Key × D)} {ys : List (List Key × V)}, RepK X.K φ H xs ys → (xs.map fun kv => D.tup (kv.1.map keyD)) = ys.map fun kv => D.tup (kv.1.map keyD) := fun r => by
            induction r with
            | nil => rfl
            | cons h _ ih => simp [h.1, ih]
          exact this rr
        have fin : ∀ z, sortD ks = some z → ∀ p vs'', H p = none → RepL X.K φ H z vs'' → Q (.ref p) (upd H p (.lst vs'')) := fun z ez p vs'' hp hr => by
          rw [ez] at P
          exact P φ _ _ (Lat.new hp) (R.new hp) (fresh_new R hp hr)
        cases h1 : intsOf ks with
        | some ns =>
          have em := intsOf_map h1
          cases ks with
          | nil =>
            cases ns with
            | cons _ _ => cases em
            | nil =>
              have g := sort_src c0 (φ := φ) (enc := PyData.int) (toD := D.int) (fun _ _ => rfl) (bs := []) (PySem.W.AllAlike.of fun _ _ => rfl) (PySem.W.Sortable.others fun _ => ⟨by simp, by simp⟩) (fun _ h => by cases h) hd (by rw [← ev]; rfl)
              refine g pins s σ H _ us Q I r ⟨rfl, rfl, fun p vs'' hp hr => fin [] (by simp [sortD, intsOf, intsL, isort]) p vs'' hp ?_⟩
              simpa using hr
          | cons x ks =>
            cases vs' with
            | nil => cases ev
            | cons y ys =>
              simp only [List.map_cons, List.cons.injEq] at ev
              rw [ev.1] at h1
              simp [intsOf] at h1
        | none =>
          cases h2 : rowsOf ks with
          | none =>
            simp only [sortD, h1, h2, ofO] at P
            exact P.elim
          | some rs =>
            obtain ⟨em, hne⟩ := rowsOf_map h2
            have g := sort_src c0 (φ := φ) (enc := fun r : List Int => PyData.tuple (r.map .int)) (toD := rowD) (fun h b => py_row h b) (bs := rs)
              (PySem.W.AllAlike.of fun b b' => by simp only [PySem.W.alike]; exact PySem.W.alike_ints b b')
              (.inl fun d hd => by
                obtain ⟨b, hb, rfl⟩ := List.mem_map.mp hd
                cases b with
                | nil => exact absurd rfl (hne _ hb)
                | cons x r => exact ⟨_, _, rfl⟩) (fun b _ => by simp [PyData.depth, PySem.W.depth_ints]) hd (by rw [← em, ev])
            rw [dataLe_tups (fun b => b), rowsL_eq] at g
            exact g pins s σ H _ us Q I r ⟨rfl, rfl, fun p vs'' hp hr => fin _ (by simp only [sortD, h1, h2]; try rfl) p vs'' hp hr⟩
  · exact other rfl
end
/-! ### {k: v for ..}, the keys tuples -/
def dcT (g : Gv) (c : Tv) (k v : Ev) (σ : Sl) : List D → List (List Key × D) → Hm → Rs (List (List Key × D))
  | [], a, h => .ok a h
  | d :: ds, a, h => match g d σ with
    | none => .bad
    | some σ1 => (c σ1 h).bindN fun t h1 => if t = true then (k σ1 h1).bindN fun y h2 => (v σ1 h2).bindN fun z h3 => match tkOf y with
      | some ky => if a.length < line then dcT g c k v σ ds (setK a ky z) h3 else .bad
      | none => .bad else dcT g c k v σ ds a h1
def eDcT (it : Iv) (g : Gv) (c : Tv) (k v : Ev) (vs : List Nat) : Ev := fun σ h => (it σ h).bind fun ds h1 => (dcT g c k v (unset σ vs) ds [] h1).bind fun a h2 => .ok (.loc h2.length) (h2 ++ [.dtu a])
theorem dcT_ne {g : Gv} {t : Tv} {k v : Ev} {σ : Sl} : ∀ {ds : List D} {a : List (List Key × D)} {h : Hm} {x : Exn} {h2 : Hm}, dcT g t k v σ ds a h ≠ .ex x h2
  | [], a, h, x, h2, q => by simp [dcT] at q
  | d :: ds, a, h, x, h2, q => by
    simp only [dcT] at q
    split at q
    · cases q
    · obtain ⟨c, h3, _, q⟩ := bindN_ex q
      split at q
      · obtain ⟨y, h4, _, q⟩ := bindN_ex q
        obtain ⟨z, h5, _, q⟩ := bindN_ex q
        split at q
        · split at q
          · exact dcT_ne q
          · cases q
        · cases q
      · exact dcT_ne q
section
variable {X : Cx} {cl : Nat → Addr} {W : WX} {kx vx tg iter : Expr} {ifs : List Expr} {it : Iv} {g : Gv} {is : List Nat} {t : Tv} {fk fv : Ev} {scope : Scope} {own : List (Str × Nat)} {pos : Pos}
theorem dcT_go (his : ∀ i ∈ is, i ∈ own.map (·.2)) {σ : L2.St} {H : Hp} {Q : VK} (p : tG X.K cl W (RR X.K) (eDcT it g t fk fv (own.map (·.2))) σ H Q) :
    tDcT (tI X.K cl W it) (tGv X.K g is) (tG X.K cl W0 RBool t) (tG X.K cl W0 (RR X.K) fk) (tG X.K cl W0 (RR X.K) fv) (own.map (·.2)) σ H Q := by
  obtain ⟨φ, st, h0, S, R0, P⟩ := p
  refine ⟨φ, st, h0, S, R0, ?_⟩
  unfold eDcT at P
  cases e : it st h0 with
  | bad => simp only [e, Rs.bind] at P; exact P
  | ex ex1 h1 => simp only [e, Rs.bind] at P; exact P
  | ok ds h1 =>
    simp only [e, Rs.bind] at P
    intro φ1 H1 J l1 r1 dv D hD
    cases e1 : dcT g t fk fv (unset st (own.map (·.2))) ds [] h1 with
    | bad => rw [e1] at P; exact P.elim
    | ex ex1 h2 => exact (dcT_ne e1).elim
    | ok res hf =>
      rw [e1] at P
      simp only at P
      have nD1 : D ∉ φ1 := r1.notin hD
      have nD0 : H D = none := l1.gone nD1 hD
      refine ⟨fun i m H2 => m = ds.length - i ∧ i ≤ ds.length ∧ ∃ φ2 h2 acc accV, Lat φ1 H1 φ2 H2 ∧ HR X.K φ2 H2 h2 ∧ D ∉ φ2 ∧ H2 D = some (.dT accV) ∧ RepK X.K φ2 H2 acc accV ∧ dcT g t fk fv (unset st (own.map (·.2))) (ds.drop i) acc h2 = .ok res hf,
        ⟨_, rfl, Nat.zero_le _, φ1, h1, [], [], Lat.new hD, r1.new hD, nD1, upd_same, .nil, e1⟩, ?_⟩
      rintro i m H2 ⟨rfl, hi, φ2, h2, acc, accV, l2, r2, nD2, eD, ra, ec⟩
      obtain ⟨d1, d2⟩ := dv φ2 H2 h2 l2.wk r2
      by_cases lt : i < ds.length
      · obtain ⟨go, yl⟩ := d1 i ds[i] (List.getElem?_eq_getElem lt)
        refine .inr ⟨go, fun H' => ∃ φ2 h2 acc accV, Lat φ1 H1 φ2 H' ∧ HR X.K φ2 H' h2 ∧ D ∉ φ2 ∧ H' D = some (.dT accV) ∧ RepK X.K φ2 H' acc accV ∧ dcT g t fk fv (unset st (own.map (·.2))) (ds.drop (i + 1)) acc h2 = .ok res hf,
          fun H' n => ⟨ds.length - (i + 1), by omega, rfl, lt, n⟩, fun x H3 y => ?_⟩
        obtain ⟨l3, r3, rx⟩ := yl x H3 y
        rw [List.drop_eq_getElem_cons lt] at ec
        simp only [dcT] at ec
        cases e2 : g ds[i] (unset st (own.map (·.2))) with
        | none => rw [e2] at ec; cases ec
        | some st3 =>
          rw [e2] at ec
          have L3 := l2.trans l3
          have S3 : SR X.K φ2 H3 (unset st (own.map (·.2))) (wipe σ (own.map (·.2))) := (S.mono (l1.trans L3)).unset _
          refine ⟨φ2, _, ds[i], st3, S3, rx, e2, fun τ S4 ch => ⟨by rw [ch.wipe his, wipe_wipe], φ2, st3, h2, S4, r3, ?_⟩⟩
          simp only at ec
          obtain ⟨c1, h4, e3, ec⟩ := bindN_ok ec
          rw [e3]
          intro φ4 H4 c2 l4 r4 ecc
          cases (show c1 = c2 from ecc)
          have l34 := l3.trans l4
          have eD4 : H4 D = some (.dT accV) := l34.keep D _ eD nD2
          have nD4 : D ∉ φ4 := l34.out eD nD2
          have ra4 := ra.mono l34.pre l34.per
          cases c1 with
          | false =>
            rw [if_neg Bool.false_ne_true]
            rw [if_neg Bool.false_ne_true] at ec
            exact ⟨φ4, h4, acc, accV, L3.trans l4, r4, nD4, eD4, ra4, ec⟩
          | true =>
            rw [if_pos rfl]
            rw [if_pos rfl] at ec
            obtain ⟨y1, h5, e5, ec⟩ := bindN_ok ec
            obtain ⟨z1, h6, e6, ec⟩ := bindN_ok ec
            refine ⟨φ4, st3, h4, S4.mono l4, r4, ?_⟩
            rw [e5]
            intro φ5 H5 yv l5 r5 ry
            refine ⟨φ5, st3, h5, (S4.mono l4).mono l5, r5, ?_⟩
            rw [e6]
            intro φ6 H6 zv l6 r6 rz
            have l56 := l5.trans l6
            have eD6 : H6 D = some (.dT accV) := l56.keep D _ eD4 nD4
            have nD6 : D ∉ φ6 := l56.out eD4 nD4
            have ra6 := ra4.mono l56.pre l56.per
            split at ec
            · rename_i ky ek
              split at ec
              · rename_i hl
                obtain ⟨b, rfl, eb⟩ := tk_of_rep (Rep.mono l6.pre l6.per _ _ ry) ek
                refine ⟨b, accV, ky, rfl, eb, eD6, by rw [← Paired.length ra6, ← line_eq]; exact hl, φ6, h6, _, _, Lat.tmp ((L3.trans l4).trans l56) hD eD6 rfl, r6.out nD6 eD6 rfl, nD6, upd_same, ?_, ec⟩
                exact (ra6.set ky rz).mono (List.prefix_refl _) (Per.wr eD6 rfl)
              · cases ec
            · cases ec
      · have ei : i = ds.length := by omega
        subst ei
        rw [List.drop_length] at ec
        simp only [dcT, Rs.ok.injEq] at ec
        obtain ⟨rfl, rfl⟩ := ec
        have L := l1.trans l2
        refine .inl ⟨d2, P (φ2 ++ [D]) _ _ ⟨L.pre.trans (List.prefix_append _ _), L.per, L.keep, fun b m => ?_⟩ (r2.add nD2 (.dtu eD (ra.mono (List.prefix_append _ _) (Per.refl _)))) (.loc ?_)⟩
        · rcases List.mem_append.mp m with m | m
          · exact L.fresh b m
          · simp at m
            subst m
            exact .inr nD0
        · rw [List.getElem?_append_right (by rw [r2.len]; exact Nat.le_refl _)]
          simp [r2.len]
theorem s_dcT {k : Nat} (c0 : Cs k X) (hi : SI X cl W tg iter it) (ok : BlkOk X.N X.env.scope scope own) (his : ∀ i ∈ is, i ∈ own.map (·.2))
    (hg : ∀ (s : Shared) (H : Hp) (C : Addr) (cc : List (Str × Addr)) (fp : List Addr), SG (X.blk s H scope (compEnvC scope cc C X.env) fp) tg g is)
    (ht : ∀ (s : Shared) (H : Hp) (C : Addr) (cc : List (Str × Addr)) (fp : List Addr), STs (X.blk s H scope (compEnvC scope cc C X.env) fp) cl W0 ifs t)
    (hk : ∀ (s : Shared) (H : Hp) (C : Addr) (cc : List (Str × Addr)) (fp : List Addr), SE (X.blk s H scope (compEnvC scope cc C X.env) fp) cl W0 kx fk)
    (he : ∀ (s : Shared) (H : Hp) (C : Addr) (cc : List (Str × Addr)) (fp : List Addr), SE (X.blk s H scope (compEnvC scope cc C X.env) fp) cl W0 vx fv) (hs : ∀ x, foldedSetIterable iter X.env x = pure x := by intro _; rfl) :
    SE X cl W (.DictComp kx vx [⟨tg, iter, ifs, 0⟩] scope pos) (eDcT it g t fk fv (own.map (·.2))) := PE.of (pe_dcT c0.hu c0.calm c0.nd hi ok hg ht hk he hs) fun σ H Q p => dcT_go his p
theorem s_setDc {k i : Nat} {y : Str} {py spos : Pos} (c0 : Cs k X) (hy : X.N[i]? = some y) (hyl : X.env.scope.names.lookup y = some .local)
    (hsw : swapsWith (.DictComp kx vx [⟨tg, iter, ifs, 0⟩] scope pos) (some (.Name y py)) spos.line X.env = pure true) (hi : SI X cl W tg iter it) (ok : BlkOk X.N X.env.scope scope own) (his : ∀ i ∈ is, i ∈ own.map (·.2))
    (hg : ∀ (s : Shared) (H : Hp) (C : Addr) (cc : List (Str × Addr)) (fp : List Addr), SG (X.blk s H scope (compEnvC scope cc C X.env) fp) tg g is)
    (ht : ∀ (s : Shared) (H : Hp) (C : Addr) (cc : List (Str × Addr)) (fp : List Addr), STs (X.blk s H scope (compEnvC scope cc C X.env) fp) cl W0 ifs t)
    (hk : ∀ (s : Shared) (H : Hp) (C : Addr) (cc : List (Str × Addr)) (fp : List Addr), SE (X.blk s H scope (compEnvC scope cc C X.env) fp) cl W0 kx fk)
    (he : ∀ (s : Shared) (H : Hp) (C : Addr) (cc : List (Str × Addr)) (fp : List Addr), SE (X.blk s H scope (compEnvC scope cc C X.env) fp) cl W0 vx fv) (hs : ∀ x, foldedSetIterable iter X.env x = pure x := by intro _; rfl) :
    SS X cl W (.Assign [.Name y py] (.DictComp kx vx [⟨tg, iter, ifs, 0⟩] scope pos) spos) (sAsg (gN i) (eDc it g t fk fv (own.map (·.2)))) := PS.of (ps_setDc c0.calm c0.nd hy hyl hsw hi ok hg ht hk he hs) fun D σ H p =>
  dc_go his (Q := fun x H1 => gName i x σ H1 D.nx) (seqO (Rel := RR X.K) (k := fun σ d h1 => outO (gN i d σ) h1) p fun φ0 st φ H1 h1 x w l S R r P => P _ _ l φ H1 _ (Lat.refl _ _) R (S.set i r))
theorem s_setDcT {k i : Nat} {y : Str} {py spos : Pos} (c0 : Cs k X) (hy : X.N[i]? = some y) (hyl : X.env.scope.names.lookup y = some .local)
    (hsw : swapsWith (.DictComp kx vx [⟨tg, iter, ifs, 0⟩] scope pos) (some (.Name y py)) spos.line X.env = pure true) (hi : SI X cl W tg iter it) (ok : BlkOk X.N X.env.scope scope own) (his : ∀ i ∈ is, i ∈ own.map (·.2))
    (hg : ∀ (s : Shared) (H : Hp) (C : Addr) (cc : List (Str × Addr)) (fp : List Addr), SG (X.blk s H scope (compEnvC scope cc C X.env) fp) tg g is)
    (ht : ∀ (s : Shared) (H : Hp) (C : Addr) (cc : List (Str × Addr)) (fp : List Addr), STs (X.blk s H scope (compEnvC scope cc C X.env) fp) cl W0 ifs t)
    (hk : ∀ (s : Shared) (H : Hp) (C : Addr) (cc : List (Str × Addr)) (fp : List Addr), SE (X.blk s H scope (compEnvC scope cc C X.env) fp) cl W0 kx fk)
    (he : ∀ (s : Shared) (H : Hp) (C : Addr) (cc : List (Str × Addr)) (fp : List Addr), SE (X.blk s H scope (compEnvC scope cc C X.env) fp) cl W0 vx fv) (hs : ∀ x, foldedSetIterable iter X.env x = pure x := by intro _; rfl) :
    SS X cl W (.Assign [.Name y py] (.DictComp kx vx [⟨tg, iter, ifs, 0⟩] scope pos) spos) (sAsg (gN i) (eDcT it g t fk fv (own.map (·.2)))) := PS.of (ps_setDcT c0.hu c0.calm c0.nd hy hyl hsw hi ok hg ht hk he hs) fun D σ H p =>
  dcT_go his (Q := fun x H1 => gName i x σ H1 D.nx) (seqO (Rel := RR X.K) (k := fun σ d h1 => outO (gN i d σ) h1) p fun φ0 st φ H1 h1 x w l S R r P => P _ _ l φ H1 _ (Lat.refl _ _) R (S.set i r))
end
end Y
end

section
set_option Elab.async false
set_option linter.all false
set_option maxRecDepth 100000
set_option maxHeartbeats 2000000
/-! YMw: a, b = a list. -/
namespace Y
open PySem PySem.Spec PyProof.Rows L2
def gTL (gs : List Gv) : Gv := fun d σ => match d with
  | .fl xs => gTs gs xs σ
  | .sq xs => gTs gs xs σ
  | _ => none
section
variable {X : Cx} {pos : Pos}
theorem g_unl {es : List Expr} {n : Nat} {gs : List Gv} {is : List Nat} (hc : X.calm = true) (h : PGs X es (tGvs X.K gs is)) (hn : (assignEach es X.env).length = gs.length := by rfl) (hst : (assignEach es X.env).findIdx? (·.1) = none := by rfl) :
    SG X (.Tuple es n pos) (gTL gs) is := PG.of (pg_unl hc h hn hst) fun v σ H Q ⟨φ, st, d, st1, S, r, e, q⟩ => by
  cases r with
  | fl hq rr => exact ⟨_, _, rfl, .inl (.inr ⟨_, hq⟩), by rw [← rr.length]; exact gTs_len (show gTs gs _ st = some st1 from e), φ, st, _, st1, S, rr, e, q⟩
  | sq hq rr => exact ⟨_, _, rfl, hq.sq, by rw [← rr.length]; exact gTs_len (show gTs gs _ st = some st1 from e), φ, st, _, st1, S, rr, e, q⟩
  | _ => cases (show (none : Option Sl) = some st1 from e)
end
end Y
end

section
set_option Elab.async false
set_option linter.all false
set_option maxRecDepth 100000
set_option maxHeartbeats 2000000
/-! YMo: exceptions of own classes as values: made, their fields, isinstance. -/
namespace Y
open PySem PySem.Spec PyProof.Rows L2
/-- C(e, ..), held as a value -/
def eMkE (c : Str) (fs : List Str) (a : Av) : Ev := fun σ h => (a σ h).bind fun xs h1 => if xs.length = fs.length ∧ fs.length ≤ 10 then .ok (.obj c fs.reverse xs.reverse) h1 else .bad
def eMk0 (c : Str) : Ev := fun _ h => .ok (.obj c [] []) h
/-- x.n, x an exception -/
def oFldE (cs : List Str) (n : Str) (_ : Hm) : D → Option D
  | .obj c ns ds => if c ∈ cs ∧ excN c = true ∧ fullN ns = false then (ns.zip ds).lookup n else none
  | _ => none
/-- isinstance(x, c), x an exception -/
def excIs (c' c : Str) : Bool := decide (c' = c) || decide (c = "LineError") || decide (c = "ValueError")
def isE (c : Str) (_ : Hm) : D → Option D
  | .obj c' ns _ => if excN c' = true ∧ fullN ns = false then some (.bl (excIs c' c)) else none
  | _ => none
/-- C(e, ..), C's own __init__ keeping sp -/
def tMkV (C : Addr) (sp : Sp) (ta : TA) : TE := fun σ H Q => ta σ H fun vs H1 => vs.length ≤ 1000 ∧ ∀ a, H1 a = none → sp (.ref a :: vs) (upd H1 a (exo a C none)) (fun v H2 => v = .non ∧ Q (.ref a) H2) (fun _ _ _ => False)
section
variable {X : Cx} {e : Expr} {es : List Expr} {ta : TA} {p pos : Pos}
theorem pe_oex {CX : CXT} {x : Str} {C fI : Addr} {k : Nat} {fd : FuncData} {ps : List Str} {sp : Sp} (T : OexC X.K C) (iC : PySem.W.findIn X.K (.ref C) "__init__" = some (some (.ref fI))) (tI : PySem.W.typeIn X.K (.ref fI) = some (.type "function"))
    (F1 : FnOk X.prog X.w X.K X.mg X.base CX k fI fd ps sp) (hr : Room (k + 1) X.A) (hb : Binds X.K fd ps []) (hx : Passes CX X (fun _ _ _ => False)) (hg : Gl X x) (hm : X.mg x = some (.ref C)) (ha : PA X (e :: es) ta)
    (hdb : (x == ("__debug__" : Str)) = false := by decide) (he : starEach (e :: es) X.env = (false, eval e X.env) :: starEach es X.env := by rfl) (hpl : (backTo pos (starEach es X.env)).any (·.1) = false := by rfl) :
    PE X (.Call (.Name x p) (e :: es) [] pos) (tMkV C sp ta) := by
  refine ⟨fun pins s σ H Q I h => ?_⟩
  obtain ⟨nm, q, N, bs, bm, sn, sub, ab, col, dd, k0, k1, k2, k3, k5, hC, hbm⟩ := T.cls
  refine wpAny_Call_Name_kw (ld_glob I hg hm ?_ hdb)
  refine PySem.W.callWith_K (h₀ := X.base) I.ok.mod.kin T.kC (thn (ha.run pos pins s σ H _ I h) fun us s1 ⟨vs, H1, I1, r1, hz, q1⟩ => ⟨I1.kIn, ?_⟩) he hpl
  show wpAny _ _ (call (.ref C) us) _ _ _
  obtain ⟨hp, g, dr, tk, os⟩ := s1
  have hsz : hp.objs.size ≤ hp.objs.size + 1 := Nat.le_succ _
  have hn : H1 (hp.objs.size + 1) = none := I1.hok.fresh hsz
  have hq := q1 (hp.objs.size + 1) hn
  have kk : ∀ b o, hp.get? b = some o → ((hp.push (PySem.W.kdv_tup us)).push (PySem.HandSPX.excO C hp.objs.size)).get? b = some o := fun b o e => Heap.get?_push_of_some _ (Heap.get?_push_of_some _ e)
  have hget : ((hp.push (PySem.W.kdv_tup us)).push (PySem.HandSPX.excO C hp.objs.size)).get? (hp.objs.size + 1) = some (PySem.HandSPX.excO C hp.objs.size) := by heap_get
  have I2 : Inv X pins σ (upd H1 (hp.objs.size + 1) (exo (hp.objs.size + 1) C none)) ⟨(hp.push (PySem.W.kdv_tup us)).push (PySem.HandSPX.excO C hp.objs.size), g, dr, tk, os⟩ :=
    I1.laid (t' := tk) (a := hp.objs.size + 1) (o := exo (hp.objs.size + 1) C none) (h' := (hp.push (PySem.W.kdv_tup us)).push (PySem.HandSPX.excO C hp.objs.size)) kk hsz (exo_ok hget)
  have r2 : Vals (V.ref (hp.objs.size + 1) :: vs) (Value.ref (hp.objs.size + 1) :: us) := .cons rfl r1
  have hl : (Value.ref (hp.objs.size + 1) :: us ++ []).length = ps.length := by
    have e := r2.length
    rw [F1.len _ _ _ _ hq] at e
    rw [List.append_nil]
    exact e.symm
  have hus : us.length ≤ sizeLine := by
    rw [← Paired.length r1, sizeLine_eq]
    omega
  refine wpAny_call (PySem.HandSPX.call_own F.excBase_ValueError (fun Y => PySem.HandSPX.refsVE_contains Y bm hbm) (I1.kIn _ _ hC) (PySem.W.looks_findIn I1.kIn iC) (fun self => PySem.W.bind_fn I1.kIn self tI) hus
    (codeAny_mono (F1.run _ X.stack _ _ ⟨Value.ref (hp.objs.size + 1) :: us, []⟩ (Value.ref (hp.objs.size + 1) :: us) _ _ (fun _ _ _ => False) (hr.make C us []) (I2.env0.make C us []) (by have := hb _ (Value.ref (hp.objs.size + 1) :: us) I2.kIn hl; rwa [List.append_nil] at this) r2 hq) fun r s' hq' => ?_))
  cases r with
  | error er => exact hx pins σ _ _ er s' I2 hq'
  | ok fl =>
    cases fl with
    | ret u =>
      obtain ⟨v, H2, os2, bare2, un2, hok2, rv, ev, q2⟩ := hq'
      subst ev
      obtain ⟨h2, g2, d2, t2, os'⟩ := s'
      exact ⟨rv, .ref (hp.objs.size + 1), H2, I2.call' (ch := []) os2 un2 hok2 bare2 (fun b z => absurd z (by simp)), rfl, q2⟩
    | next => exact False.elim hq'
    | brk => exact False.elim hq'
    | cont => exact False.elim hq'
end
section
variable {X : Cx} {cl : Nat → Addr} {W : WX} {e : Expr} {es : List Expr} {f : Ev} {fa : Av} {pos p p2 : Pos} {k : Nat} {c n : Str} {fs : List Str}
theorem s_mkE (E : Exc X.prog X.w X.K X.mg X.base c fs) (c0 : Cs k X) (hk : 2 ≤ k) (he0 : excN c = true) (ha : SA X cl W (e :: es) fa) (hg : Gl X c := by rfl) (hdb : (c == ("__debug__" : Str)) = false := by decide)
    (he : starEach (e :: es) X.env = (false, eval e X.env) :: starEach es X.env := by rfl) (hpl : (backTo pos (starEach es X.env)).any (·.1) = false := by rfl) : SE X cl W (.Call (.Name c p) (e :: es) [] pos) (eMkE c fs fa) := by
  obtain ⟨C, fI, fd, gm, hns, T, iC, tI, F, hb⟩ := E.ex
  refine PE.of (pe_oex T iC tI F (c0.room.mono hk) hb (pass0 : Passes CX0 X _) hg gm ha hdb he hpl) fun σ H Q p => ?_
  refine seq1 (k := fun xs h1 => if xs.length = fs.length ∧ fs.length ≤ 10 then .ok (D.obj c fs.reverse xs.reverse) h1 else .bad) p fun φ H1 h1 xs vs R rx P => ?_
  split at P
  · rename_i hl
    obtain ⟨hl, h10⟩ := hl
    have lv : vs.length = fs.length := by rw [← rx.length, hl]
    refine ⟨by omega, fun a ha => ⟨a, vs, rfl, lv, upd_same, fun dx H2 n1 n2 e2 e3 e4 => ⟨rfl, ?_⟩⟩⟩
    rw [upd_ne n2] at n1
    have eH : H2 = upd (upd H1 dx (exd dx (fs.zip vs).reverse)) a (exo a C (some dx)) := by
      funext b
      by_cases hba : b = a
      · subst hba; rw [upd_same, e2]
      · rw [upd_ne hba]
        by_cases hb : b = dx
        · subst hb; rw [upd_same, e3]
        · rw [upd_ne hb, e4 b hba hb, upd_ne hba]
    have na : upd H1 dx (exd dx (fs.zip vs).reverse) a = none := by rw [upd_ne (Ne.symm n2)]; exact ha
    have L : Lat φ H1 φ H2 := by rw [eH]; exact (Lat.new n1).trans (Lat.new na)
    have R2 : HR X.K φ H2 h1 := by rw [eH]; exact (R.new n1).new na
    refine P φ H2 _ L R2 (.exo (d := some dx) (fs := (fs.zip vs).reverse) (vs := vs.reverse) hns he0 e2 (fun hp ⟨t1, q⟩ => ⟨_, _, q, ⟨rfl, rfl⟩, rfl⟩) (.inr ⟨dx, rfl, e3⟩) ?_ ?_ (RepL.mono (List.prefix_refl _) L.per _ _ rx).rev)
    · rw [List.map_reverse, List.map_fst_zip (by omega)]
    · rw [List.map_reverse, List.map_snd_zip (by omega)]
  · exact P.elim
/-- what is known of the classes of exceptions -/
structure ExcF (K : PySem.W.Frag) (C : Addr) : Prop where
  xf : XfC K C
  cd : (PySem.W.clsIn K C).isSome = true
  ha : PySem.W.findIn K (.ref C) "__class__" = some (some (.builtin "object.__class__"))
  hn : PySem.W.specialIn K (.builtin "object.__class__") "__get__" = some (some (.builtin "getset_descriptor.__get__"))
  ht : PySem.W.takesIn K (.builtin "object.__class__") = some true
  hm : PySem.W.mroIn K C (.type "object") = some true
def ExcA (K : PySem.W.Frag) : Prop := ∀ c C, excN c = true → PySem.W.nsIn K mainGlobals c = some (some (.ref C)) → ExcF K C
theorem exc_inst {P : Program} {w : World} {H : Hp} {h : Heap} {a C : Addr} {d : Option Addr} {fs : List (Str × V)} {ψ : Heap → Prop} (hok : HOk P w H h) (hH : H a = some (.ext ψ)) (hψ : ∀ hp, ψ hp → ∃ oe xs, hp.get? a = some oe ∧ Zc (.ref C) d oe ∧ oe.data = .fields xs)
    (hd : (d = none ∧ fs = []) ∨ ∃ dx, d = some dx ∧ H dx = some (exd dx fs)) : ∃ oe od, PySem.W.InstAt h a oe C od ∧ ∀ n v, fs.lookup n = some v → ∃ u o, od = some o ∧ PySem.W.lookIn n o = some (some u) ∧ RelV v u := by
  obtain ⟨q, _, _⟩ := hok a _ hH
  obtain ⟨oe, xs, e1, ⟨z1, z2⟩, e3⟩ := hψ h q
  have no : PySem.W.notCls oe = true := by unfold PySem.W.notCls; rw [e3] <;> rfl
  rcases hd with ⟨rfl, rfl⟩ | ⟨dx, rfl, hx⟩
  · exact ⟨oe, none, ⟨e1, z1, no, by rw [z2]; trivial⟩, fun n v l => by cases l⟩
  · obtain ⟨mA, hns, hr⟩ := exd_at hok hx
    obtain ⟨od, ho, hl⟩ := lookIn_ns hns
    refine ⟨oe, some od, ⟨e1, z1, no, by rw [z2]; exact ho⟩, fun n v l => ?_⟩
    obtain ⟨u, hu, ru⟩ := RelO.some_of (v := v) (o := mA n) (by rw [← l]; exact hr n)
    exact ⟨u, od, rfl, by rw [hl, hu], ru⟩
/-- no class of these keeps n itself -/
def ExcNo (K : PySem.W.Frag) (cs : List Str) (n : Str) : Prop := ∀ c ∈ cs, ∀ C, PySem.W.nsIn K mainGlobals c = some (some (.ref C)) → PySem.W.findIn K (.ref C) n = some none
theorem s_flE {cs : List Str} (A : ExcA X.K) (hno : ExcNo X.K cs n) (ha : SE X cl W e f) (hb : attributeBase e n X.env (eval e X.env) = eval e X.env := by rfl) : SE X cl W (.Attribute e n pos) (e1 (oFldE cs n) f) := by
  refine PE.of (t := fun σ H Q => tG X.K cl W (RR X.K) f σ H fun v H1 => ∃ (a C : Addr) (c : Str) (d : Option Addr) (fs : List (Str × V)) (u : V) (ψ : Heap → Prop), v = .ref a ∧ c ∈ cs ∧ excN c = true ∧ PySem.W.nsIn X.K mainGlobals c = some (some (.ref C)) ∧ H1 a = some (.ext ψ) ∧
      (∀ hp, ψ hp → ∃ oe xs, hp.get? a = some oe ∧ Zc (.ref C) d oe ∧ oe.data = .fields xs) ∧ ((d = none ∧ fs = []) ∨ ∃ dx, d = some dx ∧ H1 dx = some (exd dx fs)) ∧ fs.lookup n = some u ∧ Q u H1) ?_ fun σ H Q p =>
    seq1 (k := fun x h1 => ofO (oFldE cs n h1 x) h1) p fun φ H1 h1 x v R rx P => ?_
  · refine ⟨fun pins s σ H Q I h => attr_of hb (thn (ha.run pins s σ H _ I h) fun u s1 ⟨x, H1, I1, rx, a, C, c, d, fs, v, ψ, ev, hcs, he, hc, hH, hψ, hd, l, q⟩ => ?_)⟩
    subst ev
    obtain rfl : u = Value.ref a := rx
    obtain ⟨oe, od, J, look⟩ := exc_inst I1.hok hH hψ hd
    obtain ⟨u, o, rfl, hl, ru⟩ := look n v l
    have F := A c C he hc
    exact HandSPX.exc_get I1.kIn J F.xf.ga F.xf.gg F.xf.exC (PySem.W.findObj_own F.xf.hdC (hno c hcs C hc) rfl hl) (handed_of ru) ⟨v, H1, I1.tok _, ru, q⟩
  · cases rx with
    | @exo a C c ns d fs ds vs ψ hc he h hψ hd e1 e2 r =>
      subst e1 e2
      simp only [oFldE] at P
      split at P
      · rename_i z
        cases ed : ((fs.map (·.1)).zip ds).lookup n with
        | none => rw [ed] at P; exact P.elim
        | some x =>
          rw [ed] at P
          obtain ⟨u, h1, h2⟩ := fld_at r ed
          exact ⟨a, C, c, d, fs, u, ψ, rfl, z.1, he, hc, h, hψ, hd, h1, P.val R h2⟩
      · exact P.elim
    | @obj a C dx c ns fs ds vs hc h e1 e2 r hf =>
      simp only [oFldE] at P
      split at P
      · rename_i z
        rw [← e1, hf] at z
        cases z.2.2
      · exact P.elim
    | _ => simp only [oFldE, ofO] at P; exact P.elim
/-- isinstance of an exception that is held -/
def rIsX (K : PySem.W.Frag) : List V → Hp → VK → Prop := fun xs H Q => ∃ (a C : Addr) (d : Option Addr) (fs : List (Str × V)) (ψ : Heap → Prop) (c : V) (cv : Value) (b : Bool), xs = [.ref a, c] ∧ ClsV c cv ∧ H a = some (.ext ψ) ∧
  (∀ hp, ψ hp → ∃ oe xs, hp.get? a = some oe ∧ Zc (.ref C) d oe ∧ oe.data = .fields xs) ∧ ((d = none ∧ fs = []) ∨ ∃ dx, d = some dx ∧ H dx = some (exd dx fs)) ∧ ExcF K C ∧ PySem.W.kitOne K (.ref C) cv = some b ∧ Q (.bl b) H
theorem call_isX : CallR X (.builtin "isinstance") (rIsX X.K) := by
  intro pins s σ H xs us Q I r h
  obtain ⟨a, C, d, fs, ψ, c, cv, b, rfl, kc, hH, hψ, hd, F, e, q⟩ := h
  obtain ⟨u1, u2, rfl, r1, r2⟩ := vals2 r
  have e2 := kc.eq r2
  subst e2
  obtain rfl : u1 = Value.ref a := r1
  obtain ⟨oe, od, J, _⟩ := exc_inst I.hok hH hψ hd
  exact PySem.W.kia_one (PySem.W.kitx_exc F.cd F.xf.ga F.xf.gg F.xf.exC F.ha F.hn F.ht F.hm) I.kIn J e (fun z => nomatch z) fun tk => ⟨.bl b, H, I.tok tk, rfl, q⟩
theorem isE_go {cv : V} {u : Value} (A : ExcA X.K) (kc : ClsV cv u) (hk : ∀ c' C', excN c' = true → PySem.W.nsIn X.K mainGlobals c' = some (some (.ref C')) → PySem.W.kitOne X.K (.ref C') u = some (excIs c' c)) {σ : L2.St} {H : Hp} {Q : VK} (p : tG X.K cl W (RR X.K) (e1 (isE c) f) σ H Q) :
    tG X.K cl W (RR X.K) f σ H fun v H1 => rIsX X.K [v, cv] H1 Q := by
  refine seq1 (k := fun x h1 => ofO (isE c h1 x) h1) p fun φ H1 h1 x v R rx P => ?_
  cases rx with
  | @exo a C c' ns d fs ds vs ψ hc he h hψ hd e1 e2 r =>
    simp only [isE] at P
    split at P
    · exact ⟨a, C, d, fs, ψ, cv, u, _, rfl, kc, h, hψ, hd, A c' C he hc, hk c' C he hc, P.val R (.bl _)⟩
    · exact P.elim
  | @obj a C dx c ns fs ds vs hc h e1 e2 r hf =>
    simp only [isE] at P
    split at P
    · rename_i z
      rw [← e1, hf] at z
      cases z.2
    · exact P.elim
  | _ => simp only [isE, ofO] at P; exact P.elim
def ExcI (K : PySem.W.Frag) (mg : Str → Option Value) (c : Str) : Prop := ∃ C2 : Addr, mg c = some (.ref C2) ∧ ∀ c' C', excN c' = true → PySem.W.nsIn K mainGlobals c' = some (some (.ref C')) → PySem.W.kitOne K (.ref C') (.ref C2) = some (excIs c' c)
def ExcV (K : PySem.W.Frag) : Prop := ∀ c' C', excN c' = true → PySem.W.nsIn K mainGlobals c' = some (some (.ref C')) → PySem.W.kitOne K (.ref C') (.type "ValueError") = some (excIs c' "ValueError")
theorem kit_cls {K : PySem.W.Frag} {S C : Addr} {b : Bool} (h2 : PySem.W.isClsIn K C = true) (h3 : PySem.W.typeIn K (.ref C) = some (.type "type")) (h0 : PySem.W.subIn K (.ref C) (.ref C) = some true) (h4 : PySem.W.subIn K (.ref S) (.ref C) = some b) : PySem.W.kitOne K (.ref S) (.ref C) = some b := by
  have q : (PySem.W.clsIn K C).isSome = true := h2
  unfold PySem.W.kitOne
  split
  · rename_i e
    have : S = C := Value.ref.inj (beq_iff_eq.mp e)
    subst this
    rw [h0] at h4
    exact h4
  · simp [PySem.W.kitCls, q, h3, h4]
theorem kit_val {K : PySem.W.Frag} {S : Addr} {b : Bool} (h4 : PySem.W.subIn K (.ref S) (.type "ValueError") = some b) : PySem.W.kitOne K (.ref S) (.type "ValueError") = some b := by
  have e : ¬ ((Value.ref S == Value.type "ValueError") = true) := fun h => by cases (beq_iff_eq.mp h)
  rw [PySem.W.kitOne, if_neg e]
  have m : PySem.W.kitMeta "ValueError" = true := by decide +kernel
  simp [PySem.W.kitCls, m, h4]
theorem s_isE {a : Expr} {p1 p2 : Pos} (A : ExcA X.K) (I2 : ExcI X.K X.mg c) (ha : SE X cl W a f)
    (hm : X.mg "isinstance" = none) (hg : Gl X "isinstance" := by rfl) (hg2 : Gl X c := by rfl) (hd : (c == ("__debug__" : Str)) = false := by decide)
    (he : starEach [a, .Name c p2] X.env = (false, eval a X.env) :: starEach [.Name c p2] X.env := by rfl)
    (he2 : starEach [.Name c p2] X.env = (false, eval (.Name c p2) X.env) :: starEach [] X.env := by rfl)
    (hpl : (backTo pos (starEach [.Name c p2] X.env)).any (·.1) = false := by rfl) :
    SE X cl W (.Call (.Name "isinstance" p1) [a, .Name c p2] [] pos) (e1 (isE c) f) := by
  obtain ⟨C2, gm, hk⟩ := I2
  have pn : PE X (.Name c p2) (L2.tC (.ref C2)) := ⟨fun pins s σ H Q I q => ld_glob I hg2 gm ⟨.ref C2, H, I, rfl, q⟩ hd⟩
  exact PE.of (pe_callB call_isX hg hm (by decide +kernel) (pa_cons ha (pa_cons pn pa_nil he2) he) (by decide) (by decide) he hpl) fun σ H Q p => isE_go A (.own C2) hk p
/-- isinstance(x, ValueError) -/
theorem s_isV {a : Expr} {p1 p2 : Pos} (A : ExcA X.K) (hk : ExcV X.K) (gm : X.mg "ValueError" = none) (ha : SE X cl W a f)
    (hm : X.mg "isinstance" = none) (hg : Gl X "isinstance" := by rfl) (hg2 : Gl X "ValueError" := by rfl)
    (he : starEach [a, .Name "ValueError" p2] X.env = (false, eval a X.env) :: starEach [.Name "ValueError" p2] X.env := by rfl)
    (he2 : starEach [.Name "ValueError" p2] X.env = (false, eval (.Name "ValueError" p2) X.env) :: starEach [] X.env := by rfl)
    (hpl : (backTo pos (starEach [.Name "ValueError" p2] X.env)).any (·.1) = false := by rfl) :
    SE X cl W (.Call (.Name "isinstance" p1) [a, .Name "ValueError" p2] [] pos) (e1 (isE "ValueError") f) := by
  have pn : PE X (.Name "ValueError" p2) (L2.tC (.ty "ValueError")) := ⟨fun pins s σ H Q I q => ld_blt I hg2 gm PyProof.Rows.Boot.«ValueError» ⟨.ty "ValueError", H, I, rfl, q⟩ (by decide) (by decide)⟩
  exact PE.of (pe_callB call_isX hg hm (by decide +kernel) (pa_cons ha (pa_cons pn pa_nil he2) he) (by decide) (by decide) he hpl) fun σ H Q p => isE_go A (.ty "ValueError") hk p
/-- C(), C without an __init__ of its own -/
structure Exc0 (K : PySem.W.Frag) (mg : Str → Option Value) (c : Str) : Prop where
  ex : ∃ (C : Addr), mg c = some (.ref C) ∧ PySem.W.nsIn K mainGlobals c = some (some (.ref C)) ∧ PySem.W.keepIn K (.ref C) = true ∧ ∃ (bmB : List Value) (B newId initId : String), ExcBaseFacts B newId initId bmB ∧ PySem.W.excIn K C bmB newId = true
theorem s_mk0 (E : Exc0 X.K X.mg c) (he0 : excN c = true) (hg : Gl X c := by rfl) (hdb : (c == ("__debug__" : Str)) = false := by decide) : SE X cl W (.Call (.Name c p) [] [] pos) (eMk0 c) := by
  obtain ⟨C, gm, hns, kC, bmB, B, newId, initId, F, q⟩ := E.ex
  refine ⟨fun pins s σ H Q I h => ?_⟩
  obtain ⟨φ, st, h0, S, R, P⟩ := h
  refine wpAny_Call_Name_kw (ld_glob I hg gm ?_ hdb)
  refine PySem.W.callWith_K0 I.kIn kC ?_
  show wpAny _ _ (call (.ref C) []) _ _ _
  obtain ⟨bm, N, nm, qn, bs, hdct, sn, sub, ab, col, dd, k0, k1, k2, k3, k5, mN, hC, hN, hni, T⟩ := exc_obj I.kIn q
  refine wpAny_call_exc_subT F T hC hN hni (fun h' a hm => ?_) (by show 0 ≤ sizeLine; exact Nat.zero_le _)
  have hn : H a = none := I.hok.gone hm.new
  obtain ⟨t, ht, _, _⟩ := hm.there
  refine ⟨.ref a, upd H a (ExO (.ref C) a), I.laidN hm.keeps hm.new hn (exO_ok ht ⟨rfl, rfl⟩ rfl rfl rfl (show 4 < 6 by decide)), rfl, ?_⟩
  exact P φ _ _ (Lat.new hn) (R.new hn) (.exo (d := none) (fs := []) (vs := []) hns he0 upd_same (fun hp ⟨oe, vs, q1, q2, q3, _⟩ => ⟨oe, vs, q1, q2, q3⟩) (.inl ⟨rfl, rfl⟩) rfl rfl .nil)
end
end Y
end

section
set_option Elab.async false
set_option linter.all false
set_option maxRecDepth 100000
/-! L: the bodies of the defs, law-free. -/
namespace L00
open PySem Y
def b_u_law_pen_l1 : Sv := sAsg (gN 1) (e2 oMod (eB bInt (aC (e2 oAdd (e2 oMul (eV 1) (eC (.int 137))) (eV 2)) (aN))) (eC (.int 1000000033)))
def b_u_law_pen_2 : Sv := sRet (eDct (pC (eC (.str "cells")) (eFrz (lB mList (aC (eV 0) (aN)))) (pC (eC (.str "at")) (eC (.int 0)) (pC (eC (.str "digits")) (eC (.int 0)) (pC (eC (.str "count")) (eC (.int 0)) (pC (eC (.str "fold")) (eV 1) (pN)))))))
def b_u_law_pen_1 : Sv := sSeq (sFor (iA (eV 0)) (gN 2) (b_u_law_pen_l1))
    (b_u_law_pen_2)
def b_u_law_pen : Sv := sSeq (sAsg (gN 1) (eC (.int 0)))
    (b_u_law_pen_1)
def d_u_law_pen : Fn := fnK 3 b_u_law_pen
def b_u_law_one_11 : Sv := sRet (eTup (aC (eIf (tB (e2 oEq (eV 0) (eC (.int 13)))) (eMk0 "NothingToUndo") (eMk0 "NothingToRedo")) (aC (eTup (aN)) (aN))))
def b_u_law_one_10 : Sv := sSeq (sIf (tB (e2 oEq (eV 0) (eC (.int 12)))) (sSeq (sAsg (gN 3) (eMkE "NotKept" ["promise", "witness"] (aC (eV 1) (aC (eV 2) (aN)))))
    (sRet (eTup (aC (eV 3) (aC (eTup (aC (e1 (oFldE ["NotKept"] "promise") (eV 3)) (aC (e1 (oFldE ["NotKept"] "witness") (eV 3)) (aN)))) (aN)))))) (sPass))
    (b_u_law_one_11)
def b_u_law_one_9 : Sv := sSeq (sIf (tB (e2 oEq (eV 0) (eC (.int 11)))) (sSeq (sAsg (gN 3) (eMkE "BadNumber" ["what", "number"] (aC (eV 1) (aC (eV 2) (aN)))))
    (sRet (eTup (aC (eV 3) (aC (eTup (aC (e1 (oFldE ["BadNumber"] "what") (eV 3)) (aC (e1 (oFldE ["BadNumber"] "number") (eV 3)) (aN)))) (aN)))))) (sPass))
    (b_u_law_one_10)
def b_u_law_one_8 : Sv := sSeq (sIf (tB (e2 oEq (eV 0) (eC (.int 10)))) (sSeq (sAsg (gN 3) (eMkE "BadText" ["line", "column"] (aC (eV 1) (aC (eV 2) (aN)))))
    (sRet (eTup (aC (eV 3) (aC (eTup (aC (e1 (oFldE ["BadText"] "line") (eV 3)) (aC (e1 (oFldE ["BadText"] "column") (eV 3)) (aN)))) (aN)))))) (sPass))
    (b_u_law_one_9)
def b_u_law_one_7 : Sv := sSeq (sIf (tB (e2 oEq (eV 0) (eC (.int 9)))) (sSeq (sAsg (gN 3) (eMkE "BadPaper" ["paper"] (aC (eV 1) (aN))))
    (sRet (eTup (aC (eV 3) (aC (eTup (aC (e1 (oFldE ["BadPaper"] "paper") (eV 3)) (aN))) (aN)))))) (sPass))
    (b_u_law_one_8)
def b_u_law_one_6 : Sv := sSeq (sIf (tB (e2 oEq (eV 0) (eC (.int 8)))) (sSeq (sAsg (gN 3) (eMkE "BadRoot" ["root"] (aC (eV 1) (aN))))
    (sRet (eTup (aC (eV 3) (aC (eTup (aC (e1 (oFldE ["BadRoot"] "root") (eV 3)) (aN))) (aN)))))) (sPass))
    (b_u_law_one_7)
def b_u_law_one_5 : Sv := sSeq (sIf (tB (e2 oEq (eV 0) (eC (.int 7)))) (sSeq (sAsg (gN 3) (eMkE "BadSystem" ["system"] (aC (eV 1) (aN))))
    (sRet (eTup (aC (eV 3) (aC (eTup (aC (e1 (oFldE ["BadSystem"] "system") (eV 3)) (aN))) (aN)))))) (sPass))
    (b_u_law_one_6)
def b_u_law_one_4 : Sv := sSeq (sIf (tB (e2 oEq (eV 0) (eC (.int 6)))) (sSeq (sAsg (gN 3) (eMkE "BadRows" ["rows"] (aC (eV 1) (aN))))
    (sRet (eTup (aC (eV 3) (aC (eTup (aC (e1 (oFldE ["BadRows"] "rows") (eV 3)) (aN))) (aN)))))) (sPass))
    (b_u_law_one_5)
def b_u_law_one_3 : Sv := sSeq (sIf (tB (e2 oEq (eV 0) (eC (.int 5)))) (sSeq (sAsg (gN 3) (eMkE "BadRow" ["row"] (aC (eV 1) (aN))))
    (sRet (eTup (aC (eV 3) (aC (eTup (aC (e1 (oFldE ["BadRow"] "row") (eV 3)) (aN))) (aN)))))) (sPass))
    (b_u_law_one_4)
def b_u_law_one_2 : Sv := sSeq (sIf (tB (e2 oEq (eV 0) (eC (.int 4)))) (sSeq (sAsg (gN 3) (eMkE "BadTable" ["table"] (aC (eV 1) (aN))))
    (sRet (eTup (aC (eV 3) (aC (eTup (aC (e1 (oFldE ["BadTable"] "table") (eV 3)) (aN))) (aN)))))) (sPass))
    (b_u_law_one_3)
def b_u_law_one_1 : Sv := sSeq (sIf (tB (e2 oEq (eV 0) (eC (.int 3)))) (sSeq (sAsg (gN 3) (eMkE "BadWeb" ["web"] (aC (eV 1) (aN))))
    (sRet (eTup (aC (eV 3) (aC (eTup (aC (e1 (oFldE ["BadWeb"] "web") (eV 3)) (aN))) (aN)))))) (sPass))
    (b_u_law_one_2)
def b_u_law_one : Sv := sSeq (sIf (tB (e2 oLt (eV 0) (eC (.int 3)))) (sSeq (sAsg (gN 3) (e2 oIx (eFrz (lLst (aC (eMkE "BadName" ["name"] (aC (eV 1) (aN))) (aC (eMkE "NoName" ["name"] (aC (eV 1) (aN))) (aC (eMkE "TakenName" ["name"] (aC (eV 1) (aN))) (aN)))))) (eV 0)))
    (sRet (eTup (aC (eV 3) (aC (eTup (aC (e1 (oFldE ["BadName", "NoName", "TakenName"] "name") (eV 3)) (aN))) (aN)))))) (sPass))
    (b_u_law_one_1)
def d_u_law_one : Fn := fnP 4 b_u_law_one
def b_u_law_draw_4 : Sv := sRet (e2 oMod (e2 oDiv (eB bInt (aC (e2 oMod (e2 oPow (eV 4) (eC (.int 23))) (eC (.int 2305843009213693951))) (aN))) (eC (.int 128))) (eV 1))
def b_u_law_draw_3 : Sv := sSeq (sAsg (gN 4) (e2 oAdd (e2 oAdd (e2 oIx (eV 0) (eC (.str "fold"))) (e2 oMul (e2 oIx (eV 0) (eC (.str "count"))) (eC (.int 9311)))) (eC (.int 137))))
    (b_u_law_draw_4)
def b_u_law_draw_2 : Sv := sSeq (sIf (tB (e2 oGt (e2 oIx (eV 0) (eC (.str "digits"))) (eC (.int 0)))) (sSeq (sAsg (gN 3) (e2 oMod (eB bInt (aC (e2 oIx (eV 0) (eC (.str "digits"))) (aN))) (eV 1)))
    (sSeq (sStore (eV 0) (eC (.str "digits")) (e2 oDiv (e2 oIx (eV 0) (eC (.str "digits"))) (eV 1)))
    (sRet (eV 3)))) (sPass))
    (b_u_law_draw_3)
def b_u_law_draw_1 : Sv := sSeq (sIf (tAnd (tB (e2 oEq (e2 oIx (eV 0) (eC (.str "digits"))) (eC (.int 0)))) (tB (e2 oLt (e2 oIx (eV 0) (eC (.str "at"))) (eB bLen (aC (e2 oIx (eV 0) (eC (.str "cells"))) (aN)))))) (sSeq (sAsg (gN 2) (e2 oIx (e2 oIx (eV 0) (eC (.str "cells"))) (e2 oIx (eV 0) (eC (.str "at")))))
    (sSeq (sStore (eV 0) (eC (.str "at")) (e2 oAdd (e2 oIx (eV 0) (eC (.str "at"))) (eC (.int 1))))
    (sIf (tB (e2 oGe (eV 2) (e2 oPow (eC (.int 10)) (eC (.int 18))))) (sStore (eV 0) (eC (.str "digits")) (e2 oSub (eV 2) (e2 oPow (eC (.int 10)) (eC (.int 18))))) (sStore (eV 0) (eC (.str "fold")) (e2 oMod (eB bInt (aC (e2 oAdd (e2 oMul (e2 oIx (eV 0) (eC (.str "fold"))) (eC (.int 73327))) (eV 2)) (aN))) (eC (.int 2147483543))))))) (sPass))
    (b_u_law_draw_2)
def b_u_law_draw : Sv := sSeq (sStore (eV 0) (eC (.str "count")) (e2 oAdd (e2 oIx (eV 0) (eC (.str "count"))) (eC (.int 1))))
    (b_u_law_draw_1)
def d_u_law_draw : Fn := fnP 5 b_u_law_draw
def b_u_law_pick : Sv := sRet (e2 oIx (eV 1) (eCall d_u_law_draw (aC (eV 0) (aC (eB bLen (aC (eV 1) (aN))) (aN)))))
def d_u_law_pick : Fn := fnP 2 b_u_law_pick
def b_u_law_which_3 : Sv := sRet (e2 oAdd (eV 1) (eFrz (lLst (aC (e1 (isE "NotKept") (eV 0)) (aC (e1 (isE "NothingToUndo") (eV 0)) (aC (e1 (isE "NothingToRedo") (eV 0)) (aN)))))))
def b_u_law_which_2 : Sv := sSeq (sAsg (gN 1) (e2 oAdd (eV 1) (eFrz (lLst (aC (e1 (isE "BadRoot") (eV 0)) (aC (e1 (isE "BadPaper") (eV 0)) (aC (e1 (isE "BadText") (eV 0)) (aC (e1 (isE "BadNumber") (eV 0)) (aN)))))))))
    (b_u_law_which_3)
def b_u_law_which_1 : Sv := sSeq (sAsg (gN 1) (e2 oAdd (eV 1) (eFrz (lLst (aC (e1 (isE "BadTable") (eV 0)) (aC (e1 (isE "BadRow") (eV 0)) (aC (e1 (isE "BadRows") (eV 0)) (aC (e1 (isE "BadSystem") (eV 0)) (aN)))))))))
    (b_u_law_which_2)
def b_u_law_which : Sv := sSeq (sAsg (gN 1) (eFrz (lLst (aC (e1 (isE "BadName") (eV 0)) (aC (e1 (isE "NoName") (eV 0)) (aC (e1 (isE "TakenName") (eV 0)) (aC (e1 (isE "BadWeb") (eV 0)) (aN))))))))
    (b_u_law_which_1)
def d_u_law_which : Fn := fnP 2 b_u_law_which
def b_law_l1_5 : Sv := sIf (tB (e2 oNe (eCall d_u_law_which (aC (eV 7) (aN))) (eFrz (lComp (iR1 (aC (eC (.int 15)) (aN))) (gN 10) (tYes) (e2 oEq (eV 10) (eV 3)) [10])))) (sRet (eC (.bl false))) (sPass)
def b_law_l1_4 : Sv := sSeq (sIf (tOr (tNot (tT (e1 (isE "LineError") (eV 7)))) (tNot (tT (e1 (isE "ValueError") (eV 7))))) (sRet (eC (.bl false))) (sPass))
    (b_law_l1_5)
def b_law_l1_3 : Sv := sSeq (sIf (tB (e2 oNe (eB bRepr (aC (eV 8) (aN))) (e2 oIx (eV 6) (eB bLen (aC (eV 8) (aN)))))) (sRet (eC (.bl false))) (sPass))
    (b_law_l1_4)
def b_law_l1_2 : Sv := sSeq (sAsg (gT [gN 7, gN 8]) (eCall d_u_law_one (aC (eV 3) (aC (eV 4) (aC (eV 5) (aN))))))
    (b_law_l1_3)
def b_law_l1_1 : Sv := sSeq (sAsg (gN 6) (eFrz (lComp (iR1 (aC (eC (.int 3)) (aN))) (gN 9) (tYes) (eB bRepr (aC (eSl (eTup (aC (eV 4) (aC (eV 5) (aN)))) (oN) (oS (eV 9))) (aN))) [9])))
    (b_law_l1_2)
def b_law_l1 : Sv := sSeq (sAsg (gT [gN 4, gN 5]) (eTup (aC (eCall d_u_law_pick (aC (eV 1) (aC (eV 2) (aN)))) (aC (eCall d_u_law_pick (aC (eV 1) (aC (eV 2) (aN)))) (aN)))))
    (b_law_l1_1)
def b_law_4 : Sv := sRet (eC (.bl true))
def b_law_3 : Sv := sSeq (sFor (iR1 (aC (eC (.int 15)) (aN))) (gN 3) (b_law_l1))
    (b_law_4)
def b_law_2 : Sv := sSeq (sApp (eV 2) (eTup (aC (eTup (aC (eC (.int 0)) (aC (eC (.int 0)) (aN)))) (aN))))
    (b_law_3)
def b_law_1 : Sv := sSeq (sAsg (gN 2) (eMut (lLst (aC (eC .non) (aC (eC (.bl true)) (aC (eC (.int 0)) (aC (e2 oSub (e1 uNeg (eC (.int 1))) (eCall d_u_law_draw (aC (eV 1) (aC (eC (.int 9)) (aN))))) (aC (e2 oAdd (e2 oPow (eC (.int 10)) (eC (.int 40))) (eCall d_u_law_draw (aC (eV 1) (aC (eC (.int 99)) (aN))))) (aC (eC (.str "")) (aC (eC (.str "log")) (aC (eTup (aC (eC (.int 1)) (aC (eC (.int 2)) (aN)))) (aC (eFrz (lLst (aC (eC (.int 3)) (aN)))) (aC (eTup (aC (eC (.str "b")) (aC (eC (.str "c")) (aN)))) (aN))))))))))))))
    (b_law_2)
def b_law : Sv := sSeq (sAsg (gN 1) (eCall d_u_law_pen (aC (eV 0) (aN))))
    (b_law_1)
def d_law : Fn := fnP 11 b_law
end L00
end

section
set_option Elab.async false
set_option linter.all false
set_option maxRecDepth 100000
/-! WA: the bodies of the defs, law-free. -/
namespace Pg
open PySem Y
def b_near_lots_l1_1 : Sv := sApp (e2 oIx (eV 2) (eV 4)) (eV 3)
def b_near_lots_l1 : Sv := sSeq (sApp (e2 oIx (eV 2) (eV 3)) (eV 4))
    (b_near_lots_l1_1)
def b_near_lots_2 : Sv := sRet (eB bTuple (aC (eFrz (lComp (iA (eV 2)) (gN 5) (tYes) (eB bTuple (aC (eFrz (lB mSortA (aC (eV 5) (aN)))) (aN))) [5])) (aN)))
def b_near_lots_1 : Sv := sSeq (sFor (iA (eV 1)) (gT [gN 3, gN 4]) (b_near_lots_l1))
    (b_near_lots_2)
def b_near_lots : Sv := sSeq (sAsg (gN 2) (eFrz (lComp (iR1 (aC (eV 0) (aN))) (gN 3) (tYes) (eMut (lLst (aN))) [3])))
    (b_near_lots_1)
def d_near_lots : Fn := fnP 6 b_near_lots
def b_is_whole : Sv := sRet (eAnd (eIs Ty.int (eV 0)) (e1 uNot (eIs Ty.bool (eV 0))))
def d_is_whole : Fn := fnP 1 b_is_whole
def b_is_count : Sv := sRet (eAnd (eCall d_is_whole (aC (eV 0) (aN))) (e2 oGe (eV 0) (eC (.int 0))))
def d_is_count : Fn := fnP 1 b_is_count
def b_is_place_of : Sv := sRet (eAnd (eCall d_is_count (aC (eV 1) (aN))) (e2 oLt (eV 1) (eV 0)))
def d_is_place_of : Fn := fnP 2 b_is_place_of
def b_is_tie_1 : Sv := sRet (e2 oLt (e2 oIx (eV 1) (eC (.int 0))) (e2 oIx (eV 1) (eC (.int 1))))
def b_is_tie : Sv := sSeq (sIf (tOr (tNot (tT (eIs Ty.tuple (eV 1)))) (tOr (tB (e2 oNe (eB bLen (aC (eV 1) (aN))) (eC (.int 2)))) (tNot (tT (eB bAll (aC (eFrz (lComp (iA (eV 1)) (gN 2) (tYes) (eCall d_is_place_of (aC (eV 0) (aC (eV 2) (aN)))) [2])) (aN))))))) (sRet (eC (.bl false))) (sPass))
    (b_is_tie_1)
def d_is_tie : Fn := fnP 3 b_is_tie
def b_are_ties_1 : Sv := sRet (eB bAll (aC (eFrz (lComp (iZipD (aC (eV 1) (aC (eSl (eV 1) (oS (eC (.int 1))) (oN)) (aN)))) (gT [gN 2, gN 3]) (tYes) (e2 oLt (eV 2) (eV 3)) [2, 3])) (aN)))
def b_are_ties : Sv := sSeq (sIf (tOr (tNot (tT (eCall d_is_count (aC (eV 0) (aN))))) (tOr (tNot (tT (eIs Ty.tuple (eV 1)))) (tNot (tT (eB bAll (aC (eFrz (lComp (iA (eV 1)) (gN 4) (tYes) (eCall d_is_tie (aC (eV 0) (aC (eV 4) (aN)))) [4])) (aN))))))) (sRet (eC (.bl false))) (sPass))
    (b_are_ties_1)
def d_are_ties : Fn := fnP 5 b_are_ties
def b_Web : Av := bIf (tNot (tT (eCall d_are_ties (aC (eV 1) (aC (eV 2) (aN)))))) (sRaise "BadWeb" ["web"] (aC (eTup (aC (eV 1) (aC (eV 2) (aN)))) (aN))) (aC (eV 1) (aC (eV 2) (aC (eCall d_near_lots (aC (eV 1) (aC (eV 2) (aN)))) (aN))))
def d_Web : Fn := mkO b_Web "Web" ["places", "ties", "near"] 3
def b_is_web : Sv := sRet (e1 (isO "Web") (eV 0))
def d_is_web : Fn := fnP 1 b_is_web
def b_need_web : Sv := sIf (tNot (tT (eCall d_is_web (aC (eV 0) (aN))))) (sRaise "BadWeb" ["web"] (aC (eV 0) (aN))) (sPass)
def d_need_web : Fn := fnP 1 b_need_web
def b_degrees_in : Sv := sRet (eB bTuple (aC (eFrz (lComp (iA (e1 (oFld "Web" "near") (eV 0))) (gN 1) (tYes) (eB bLen (aC (eV 1) (aN))) [1])) (aN)))
def d_degrees_in : Fn := fnP 2 b_degrees_in
def b_tied_in : Sv := sRet (e2 oIn (eV 2) (e2 oIx (e1 (oFld "Web" "near") (eV 0)) (eV 1)))
def d_tied_in : Fn := fnP 3 b_tied_in
def b_pairs_in : Sv := sRet (eFrz (lComp2 (iR1 (aC (e1 (oFld "Web" "places") (eV 0)) (aN))) (gN 2) (tYes) (iR2 (aC (e2 oAdd (eV 2) (eC (.int 1))) (aC (e1 (oFld "Web" "places") (eV 0)) (aN)))) (gN 3) (tB (e2 oEq (eCall d_tied_in (aC (eV 0) (aC (eV 2) (aC (eV 3) (aN))))) (eV 1))) (eTup (aC (eV 2) (aC (eV 3) (aN)))) [2, 3] [3]))
def d_pairs_in : Fn := fnP 4 b_pairs_in
def b_common_in_1 : Sv := sRet (eB bTuple (aC (eFrz (lComp (iA (e2 oIx (e1 (oFld "Web" "near") (eV 0)) (eV 1))) (gN 4) (tB (e2 oIn (eV 4) (eV 3))) (eV 4) [4])) (aN)))
def b_common_in : Sv := sSeq (sAsg (gN 3) (eDc (iA (e2 oIx (e1 (oFld "Web" "near") (eV 0)) (eV 2))) (gN 4) (tYes) (eV 4) (eC (.bl true)) [4]))
    (b_common_in_1)
def d_common_in : Fn := fnP 5 b_common_in
def b_uneven_in_l1 : Sv := sIf (tB (e2 oNe (eV 3) (e2 oIx (eV 1) (eC (.int 0))))) (sRet (eTup (aC (eC (.str "degree")) (aC (eV 2) (aN))))) (sPass)
def b_uneven_in_l2_3 : Sv := sIf (tT (eV 8)) (sRet (eTup (aC (eV 4) (aC (e2 oIx (eV 8) (eC (.int 0))) (aN))))) (sPass)
def b_uneven_in_l2_2 : Sv := sSeq (sAsg (gN 8) (eFrz (lComp (iZipD (aC (eV 6) (aC (eV 7) (aN)))) (gT [gN 10, gN 11]) (tB (e2 oNe (eV 11) (e2 oIx (eV 7) (eC (.int 0))))) (eV 10) [10, 11])))
    (b_uneven_in_l2_3)
def b_uneven_in_l2_1 : Sv := sSeq (sAsg (gN 7) (eFrz (lComp (iA (eV 6)) (gT [gN 2, gN 9]) (tYes) (eB bLen (aC (eCall d_common_in (aC (eV 0) (aC (eV 2) (aC (eV 9) (aN))))) (aN))) [2, 9])))
    (b_uneven_in_l2_2)
def b_uneven_in_l2 : Sv := sSeq (sAsg (gN 6) (eCall d_pairs_in (aC (eV 0) (aC (eV 5) (aN)))))
    (b_uneven_in_l2_1)
def b_uneven_in_4 : Sv := sRet (eC .non)
def b_uneven_in_3 : Sv := sSeq (sFor (iA (eTup (aC (eTup (aC (eC (.str "tied")) (aC (eC (.bl true)) (aN)))) (aC (eTup (aC (eC (.str "untied")) (aC (eC (.bl false)) (aN)))) (aN))))) (gT [gN 4, gN 5]) (b_uneven_in_l2))
    (b_uneven_in_4)
def b_uneven_in_2 : Sv := sSeq (sFor (iEnumV (aC (eV 1) (aN))) (gT [gN 2, gN 3]) (b_uneven_in_l1))
    (b_uneven_in_3)
def b_uneven_in_1 : Sv := sSeq (sIf (tOr (tNot (tT (eV 1))) (tB (e2 oIn (e2 oIx (eV 1) (eC (.int 0))) (eTup (aC (eC (.int 0)) (aC (e2 oSub (e1 (oFld "Web" "places") (eV 0)) (eC (.int 1))) (aN))))))) (sRet (eTup (aC (eC (.str "degree")) (aC (eC (.int 0)) (aN))))) (sPass))
    (b_uneven_in_2)
def b_uneven_in : Sv := sSeq (sAsg (gN 1) (eCall d_degrees_in (aC (eV 0) (aN))))
    (b_uneven_in_1)
def d_uneven_in : Fn := fnP 12 b_uneven_in
def b_uneven_1 : Sv := sRet (eCall d_uneven_in (aC (eV 0) (aN)))
def b_uneven : Sv := sSeq (sExpr (eCall d_need_web (aC (eV 0) (aN))))
    (b_uneven_1)
def d_uneven : Fn := fnP 1 b_uneven
def b_numbers_of_4 : Sv := sRet (eTup (aC (e1 (oFld "Web" "places") (eV 0)) (aC (eB bLen (aC (e2 oIx (e1 (oFld "Web" "near") (eV 0)) (eC (.int 0))) (aN))) (aC (e2 oIx (eV 2) (eC (.int 0))) (aC (e2 oIx (eV 2) (eC (.int 1))) (aN))))))
def b_numbers_of_3 : Sv := sSeq (sAsg (gN 2) (eFrz (lComp (iA (eTup (aC (e2 oIx (eCall d_pairs_in (aC (eV 0) (aC (eC (.bl true)) (aN)))) (eC (.int 0))) (aC (e2 oIx (eCall d_pairs_in (aC (eV 0) (aC (eC (.bl false)) (aN)))) (eC (.int 0))) (aN))))) (gT [gN 3, gN 4]) (tYes) (eB bLen (aC (eCall d_common_in (aC (eV 0) (aC (eV 3) (aC (eV 4) (aN))))) (aN))) [3, 4])))
    (b_numbers_of_4)
def b_numbers_of_2 : Sv := sSeq (sIf (tB (e2 oIsNot (eV 1) (eC .non))) (sRaise "NotKept" ["promise", "witness"] (aC (eC (.str "even")) (aC (eV 1) (aN)))) (sPass))
    (b_numbers_of_3)
def b_numbers_of_1 : Sv := sSeq (sAsg (gN 1) (eCall d_uneven_in (aC (eV 0) (aN))))
    (b_numbers_of_2)
def b_numbers_of : Sv := sSeq (sExpr (eCall d_need_web (aC (eV 0) (aN))))
    (b_numbers_of_1)
def d_numbers_of : Fn := fnP 5 b_numbers_of
def b_all_pairs : Sv := sRet (eFrz (lComp2 (iR1 (aC (eV 0) (aN))) (gN 1) (tYes) (iR2 (aC (e2 oAdd (eV 1) (eC (.int 1))) (aC (eV 0) (aN)))) (gN 2) (tYes) (eTup (aC (eV 1) (aC (eV 2) (aN)))) [1, 2] [2]))
def d_all_pairs : Fn := fnP 3 b_all_pairs
def b_complement_in_1 : Sv := sRet (eCall d_Web (aC (e1 (oFld "Web" "places") (eV 0)) (aC (eB bTuple (aC (eFrz (lComp (iA (eCall d_all_pairs (aC (e1 (oFld "Web" "places") (eV 0)) (aN)))) (gN 3) (tB (e2 oNotIn (eV 3) (eV 1))) (eV 3) [3])) (aN))) (aN))))
def b_complement_in : Sv := sSeq (sAsg (gN 1) (eDcT (iA (e1 (oFld "Web" "ties") (eV 0))) (gN 2) (tYes) (eV 2) (eC (.bl true)) [2]))
    (b_complement_in_1)
def d_complement_in : Fn := fnP 4 b_complement_in
def b_complement_1 : Sv := sRet (eCall d_complement_in (aC (eV 0) (aN)))
def b_complement : Sv := sSeq (sExpr (eCall d_need_web (aC (eV 0) (aN))))
    (b_complement_1)
def d_complement : Fn := fnP 1 b_complement
def b_need_number : Sv := sIf (tNot (tT (eCall d_is_count (aC (eV 1) (aN))))) (sRaise "BadNumber" ["what", "number"] (aC (eV 0) (aC (eV 1) (aN)))) (sPass)
def d_need_number : Fn := fnP 2 b_need_number
def b_web_by_1 : Sv := sRet (eCall d_Web (aC (eV 0) (aC (eB bTuple (aC (eFrz (lB mSortA (aC (eV 2) (aN)))) (aN))) (aN))))
def b_web_by : Sv := sSeq (sAsg (gN 2) (eDcT (iA (eV 1)) (gT [gN 3, gN 4]) (tYes) (eTup (aC (eB bMin2 (aC (eV 3) (aC (eV 4) (aN)))) (aC (eB bMax2 (aC (eV 3) (aC (eV 4) (aN)))) (aN)))) (eC (.bl true)) [3, 4]))
    (b_web_by_1)
def d_web_by : Fn := fnP 5 b_web_by
def b_ring_web_2 : Sv := sRet (eCall d_web_by (aC (eV 0) (aC (eFrz (lComp (iR1 (aC (eV 0) (aN))) (gN 1) (tYes) (eTup (aC (eV 1) (aC (e2 oMod (e2 oAdd (eV 1) (eC (.int 1))) (eV 0)) (aN)))) [1])) (aN))))
def b_ring_web_1 : Sv := sSeq (sIf (tB (e2 oLt (eV 0) (eC (.int 3)))) (sRaise "BadNumber" ["what", "number"] (aC (eC (.str "n")) (aC (eV 0) (aN)))) (sPass))
    (b_ring_web_2)
def b_ring_web : Sv := sSeq (sExpr (eCall d_need_number (aC (eC (.str "n")) (aC (eV 0) (aN)))))
    (b_ring_web_1)
def d_ring_web : Fn := fnP 2 b_ring_web
def b_pairs_web_1 : Sv := sRet (eCall d_Web (aC (e2 oMul (eC (.int 2)) (eV 0)) (aC (eB bTuple (aC (eFrz (lComp (iA (eCall d_all_pairs (aC (e2 oMul (eC (.int 2)) (eV 0)) (aN)))) (gT [gN 1, gN 2]) (tB (e2 oNe (e2 oDiv (eV 1) (eC (.int 2))) (e2 oDiv (eV 2) (eC (.int 2))))) (eTup (aC (eV 1) (aC (eV 2) (aN)))) [1, 2])) (aN))) (aN))))
def b_pairs_web : Sv := sSeq (sExpr (eCall d_need_number (aC (eC (.str "n")) (aC (eV 0) (aN)))))
    (b_pairs_web_1)
def d_pairs_web : Fn := fnP 3 b_pairs_web
def b_counts_in_1 : Sv := sRet (eB bTuple (aC (eFrz (lComp (iA (eV 1)) (gN 2) (tYes) (eB bTuple (aC (eFrz (lComp (iA (eV 1)) (gN 3) (tYes) (eB bLen (aC (eCall d_common_in (aC (eV 0) (aC (eV 2) (aC (eV 3) (aN))))) (aN))) [3])) (aN))) [2])) (aN)))
def b_counts_in : Sv := sSeq (sAsg (gN 1) (eFrz (lRng1 (e1 (oFld "Web" "places") (eV 0)))))
    (b_counts_in_1)
def d_counts_in : Fn := fnP 4 b_counts_in
def b_common_counts_1 : Sv := sRet (eCall d_counts_in (aC (eV 0) (aN)))
def b_common_counts : Sv := sSeq (sExpr (eCall d_need_web (aC (eV 0) (aN))))
    (b_common_counts_1)
def d_common_counts : Fn := fnP 1 b_common_counts
def b_need_place : Sv := sIf (tNot (tT (eCall d_is_place_of (aC (e1 (oFld "Web" "places") (eV 0)) (aC (eV 1) (aN)))))) (sRaise "BadNumber" ["what", "number"] (aC (eC (.str "place")) (aC (eV 1) (aN)))) (sPass)
def d_need_place : Fn := fnP 2 b_need_place
def b_common_near_3 : Sv := sRet (eCall d_common_in (aC (eV 0) (aC (eV 1) (aC (eV 2) (aN)))))
def b_common_near_2 : Sv := sSeq (sExpr (eCall d_need_place (aC (eV 0) (aC (eV 2) (aN)))))
    (b_common_near_3)
def b_common_near_1 : Sv := sSeq (sExpr (eCall d_need_place (aC (eV 0) (aC (eV 1) (aN)))))
    (b_common_near_2)
def b_common_near : Sv := sSeq (sExpr (eCall d_need_web (aC (eV 0) (aN))))
    (b_common_near_1)
def d_common_near : Fn := fnP 3 b_common_near
def b_is_even_1 : Sv := sRet (e2 oIs (eCall d_uneven_in (aC (eV 0) (aN))) (eC .non))
def b_is_even : Sv := sSeq (sExpr (eCall d_need_web (aC (eV 0) (aN))))
    (b_is_even_1)
def d_is_even : Fn := fnP 1 b_is_even
def b_are_numbers_2 : Sv := sRet (eAnd (eCh oLt oLt (eC (.int 0)) (eV 2) (e2 oSub (eV 1) (eC (.int 1)))) (eAnd (e2 oLt (eV 3) (eV 2)) (e2 oLe (eV 4) (eV 2))))
def b_are_numbers_1 : Sv := sSeq (sAsg (gT [gN 1, gN 2, gN 3, gN 4]) (eV 0))
    (b_are_numbers_2)
def b_are_numbers : Sv := sSeq (sIf (tOr (tNot (tT (eIs Ty.tuple (eV 0)))) (tOr (tB (e2 oNe (eB bLen (aC (eV 0) (aN))) (eC (.int 4)))) (tNot (tT (eB bAll (aC (eFrz (lComp (iA (eV 0)) (gN 5) (tYes) (eCall d_is_count (aC (eV 5) (aN))) [5])) (aN))))))) (sRet (eC (.bl false))) (sPass))
    (b_are_numbers_1)
def d_are_numbers : Fn := fnP 6 b_are_numbers
def b_need_numbers : Sv := sIf (tNot (tT (eCall d_are_numbers (aC (eV 0) (aN))))) (sRaise "BadRow" ["row"] (aC (eV 0) (aN))) (sPass)
def d_need_numbers : Fn := fnP 1 b_need_numbers
def b_turned_in_1 : Sv := sRet (eTup (aC (eV 1) (aC (e2 oSub (e2 oSub (eV 1) (eV 2)) (eC (.int 1))) (aC (e2 oSub (e2 oAdd (e2 oSub (eV 1) (e2 oMul (eC (.int 2)) (eV 2))) (eV 4)) (eC (.int 2))) (aC (e2 oAdd (e2 oSub (eV 1) (e2 oMul (eC (.int 2)) (eV 2))) (eV 3)) (aN))))))
def b_turned_in : Sv := sSeq (sAsg (gT [gN 1, gN 2, gN 3, gN 4]) (eV 0))
    (b_turned_in_1)
def d_turned_in : Fn := fnP 5 b_turned_in
def b_turned_numbers_3 : Sv := sRet (eV 1)
def b_turned_numbers_2 : Sv := sSeq (sIf (tB (e2 oLt (eB bMin (aC (eV 1) (aN))) (eC (.int 0)))) (sRaise "NotKept" ["promise", "witness"] (aC (eC (.str "numbers")) (aC (eV 1) (aN)))) (sPass))
    (b_turned_numbers_3)
def b_turned_numbers_1 : Sv := sSeq (sAsg (gN 1) (eCall d_turned_in (aC (eV 0) (aN))))
    (b_turned_numbers_2)
def b_turned_numbers : Sv := sSeq (sExpr (eCall d_need_numbers (aC (eV 0) (aN))))
    (b_turned_numbers_1)
def d_turned_numbers : Fn := fnP 2 b_turned_numbers
def b_need_count : Sv := sIf (tNot (tT (eCall d_is_count (aC (eV 1) (aN))))) (sRaise "BadNumber" ["what", "number"] (aC (eV 0) (aC (eV 1) (aN)))) (sPass)
def d_need_count : Fn := fnP 2 b_need_count
def b_at_two_in_3 : Sv := sRet (eIf (tT (eCall d_are_numbers (aC (eV 4) (aN)))) (eV 4) (eC .non))
def b_at_two_in_2 : Sv := sSeq (sAsg (gN 4) (eTup (aC (e2 oAdd (e2 oAdd (eC (.int 1)) (eV 0)) (e2 oDiv (e2 oMul (eV 0) (e2 oAdd (eV 1) (eC (.int 1)))) (eV 3))) (aC (eV 0) (aC (eV 2) (aC (eV 3) (aN)))))))
    (b_at_two_in_3)
def b_at_two_in_1 : Sv := sSeq (sIf (tOr (tB (e2 oLt (eV 2) (eC (.int 0)))) (tOr (tB (e2 oLt (eV 3) (eC (.int 1)))) (tT (e2 oMod (e2 oMul (eV 0) (e2 oAdd (eV 1) (eC (.int 1)))) (eV 3))))) (sRet (eC .non)) (sPass))
    (b_at_two_in_2)
def b_at_two_in : Sv := sSeq (sPar 2 3 (aC (e2 oSub (e2 oSub (eV 0) (eV 1)) (eC (.int 2))) (aC (e2 oSub (eV 0) (e2 oMul (eC (.int 2)) (eV 1))) aN)))
    (b_at_two_in_1)
def d_at_two_in : Fn := fnP 5 b_at_two_in
def b_numbers_at_two_2 : Sv := sRet (eCall d_at_two_in (aC (eV 0) (aC (eV 1) (aN))))
def b_numbers_at_two_1 : Sv := sSeq (sExpr (eCall d_need_count (aC (eC (.str "r")) (aC (eV 1) (aN)))))
    (b_numbers_at_two_2)
def b_numbers_at_two : Sv := sSeq (sExpr (eCall d_need_count (aC (eC (.str "k")) (aC (eV 0) (aN)))))
    (b_numbers_at_two_1)
def d_numbers_at_two : Fn := fnP 2 b_numbers_at_two
def b_square_of_difference_1 : Sv := sRet (e2 oAdd (e2 oMul (e2 oSub (eV 3) (eV 4)) (e2 oSub (eV 3) (eV 4))) (e2 oMul (eC (.int 4)) (e2 oSub (eV 2) (eV 4))))
def b_square_of_difference : Sv := sSeq (sAsg (gT [gN 1, gN 2, gN 3, gN 4]) (eV 0))
    (b_square_of_difference_1)
def d_square_of_difference : Fn := fnP 5 b_square_of_difference
def b_rays_in_3 : Sv := sRet (eTup (aC (e2 oDiv (e2 oAdd (eV 2) (eV 3)) (eC (.int 2))) (aC (e2 oDiv (e2 oSub (eV 2) (eV 3)) (eC (.int 2))) (aN))))
def b_rays_in_2 : Sv := sSeq (sIf (tOr (tB (e2 oNe (e2 oMul (eV 3) (eV 3)) (eV 1))) (tT (e2 oMod (e2 oAdd (eV 2) (eV 3)) (eC (.int 2))))) (sRet (eC .non)) (sPass))
    (b_rays_in_3)
def b_rays_in_1 : Sv := sSeq (sAsg (gN 3) (eB bSqrt (aC (eV 1) (aN))))
    (b_rays_in_2)
def b_rays_in : Sv := sSeq (sPar 1 2 (aC (eCall d_square_of_difference (aC (eV 0) (aN))) (aC (e2 oSub (e2 oIx (eV 0) (eC (.int 2))) (e2 oIx (eV 0) (eC (.int 3)))) aN)))
    (b_rays_in_1)
def d_rays_in : Fn := fnP 4 b_rays_in
def b_times_in_7 : Sv := sRet (eIf (tB (eCh oLe oLe (eC (.int 0)) (eV 10) (e2 oSub (eV 1) (eC (.int 1))))) (eTup (aC (eV 10) (aC (e2 oSub (e2 oSub (eV 1) (eC (.int 1))) (eV 10)) (aN)))) (eC .non))
def b_times_in_6 : Sv := sSeq (sAsg (gN 10) (e2 oDiv (eV 9) (e2 oSub (eV 7) (eV 8))))
    (b_times_in_7)
def b_times_in_5 : Sv := sSeq (sIf (tOr (tB (e2 oEq (eV 7) (eV 8))) (tT (e2 oMod (eV 9) (e2 oSub (eV 7) (eV 8))))) (sRet (eC .non)) (sPass))
    (b_times_in_6)
def b_times_in_4 : Sv := sSeq (sAsg (gN 9) (e2 oSub (e1 uNeg (eV 2)) (e2 oMul (eV 8) (e2 oSub (eV 1) (eC (.int 1))))))
    (b_times_in_5)
def b_times_in_3 : Sv := sSeq (sAsg (gT [gN 7, gN 8]) (eV 5))
    (b_times_in_4)
def b_times_in_2 : Sv := sSeq (sIf (tB (e2 oIs (eV 5) (eC .non))) (sSeq (sAsg (gN 6) (eAnd (e2 oEq (e2 oMod (e2 oSub (eV 1) (eC (.int 1))) (eC (.int 2))) (eC (.int 0))) (e2 oEq (e2 oAdd (e2 oMul (eC (.int 2)) (eV 2)) (e2 oMul (e2 oSub (eV 1) (eC (.int 1))) (e2 oSub (eV 3) (eV 4)))) (eC (.int 0)))))
    (sRet (eIf (tT (eV 6)) (eTup (aC (e2 oDiv (e2 oSub (eV 1) (eC (.int 1))) (eC (.int 2))) (aC (e2 oDiv (e2 oSub (eV 1) (eC (.int 1))) (eC (.int 2))) (aN)))) (eC .non)))) (sPass))
    (b_times_in_3)
def b_times_in_1 : Sv := sSeq (sAsg (gN 5) (eCall d_rays_in (aC (eV 0) (aN))))
    (b_times_in_2)
def b_times_in : Sv := sSeq (sAsg (gT [gN 1, gN 2, gN 3, gN 4]) (eV 0))
    (b_times_in_1)
def d_times_in : Fn := fnP 11 b_times_in
def b_balanced_in_1 : Sv := sRet (e2 oEq (e2 oMul (eV 2) (e2 oSub (e2 oSub (eV 2) (eV 3)) (eC (.int 1)))) (e2 oMul (e2 oSub (e2 oSub (eV 1) (eV 2)) (eC (.int 1))) (eV 4)))
def b_balanced_in : Sv := sSeq (sAsg (gT [gN 1, gN 2, gN 3, gN 4]) (eV 0))
    (b_balanced_in_1)
def d_balanced_in : Fn := fnP 5 b_balanced_in
def b_can_be_in_4 : Sv := sRet (eOr (e1 uNot (eCh oLt oLt (eC (.int 0)) (eV 5) (eV 3))) (eB bAll (aC (eFrz (lComp (iA (eV 1)) (gN 6) (tYes) (e2 oLe (e2 oMul (eC (.int 2)) (eV 2)) (e2 oMul (eV 6) (e2 oAdd (eV 6) (eC (.int 3))))) [6])) (aN))))
def b_can_be_in_3 : Sv := sSeq (sAsg (gT [gN 2, gN 3, gN 4, gN 5]) (eV 0))
    (b_can_be_in_4)
def b_can_be_in_2 : Sv := sSeq (sIf (tB (e2 oIs (eV 1) (eC .non))) (sRet (eC (.bl false))) (sPass))
    (b_can_be_in_3)
def b_can_be_in_1 : Sv := sSeq (sAsg (gN 1) (eCall d_times_in (aC (eV 0) (aN))))
    (b_can_be_in_2)
def b_can_be_in : Sv := sSeq (sIf (tOr (tNot (tT (eCall d_balanced_in (aC (eV 0) (aN))))) (tB (e2 oLt (eB bMin (aC (eCall d_turned_in (aC (eV 0) (aN))) (aN))) (eC (.int 0))))) (sRet (eC (.bl false))) (sPass))
    (b_can_be_in_1)
def d_can_be_in : Fn := fnP 7 b_can_be_in
def b_is_at_two_1 : Sv := sRet (eAnd (e2 oIsNot (eV 1) (eC .non)) (eAnd (e2 oEq (e2 oIx (eV 1) (eC (.int 1))) (e1 uNeg (eC (.int 2)))) (eAnd (e2 oGt (e2 oIx (eV 0) (eC (.int 3))) (eC (.int 0))) (eCall d_can_be_in (aC (eV 0) (aN))))))
def b_is_at_two : Sv := sSeq (sAsg (gN 1) (eCall d_rays_in (aC (eV 0) (aN))))
    (b_is_at_two_1)
def d_is_at_two : Fn := fnP 2 b_is_at_two
def b_few_at_two_l2_1 : Sv := sIf (tAnd (tB (e2 oIsNot (eV 4) (eC .non))) (tAnd (tB (e2 oLe (e2 oIx (eV 4) (eC (.int 0))) (eV 0))) (tAnd (tT (eCall d_is_at_two (aC (eV 4) (aN)))) (tB (e2 oLe (e2 oIx (eCall d_times_in (aC (eV 4) (aN))) (eC (.int 0))) (eC (.int 7))))))) (sApp (eV 1) (eV 4)) (sPass)
def b_few_at_two_l2 : Sv := sSeq (sAsg (gN 4) (eCall d_at_two_in (aC (eV 2) (aC (eV 3) (aN)))))
    (b_few_at_two_l2_1)
def b_few_at_two_l1 : Sv := sFor (iR1 (aC (e2 oAdd (e2 oDiv (eV 2) (eC (.int 2))) (eC (.int 1))) (aN))) (gN 3) (b_few_at_two_l2)
def b_few_at_two_3 : Sv := sRet (eB bTuple (aC (eFrz (lB mSortA (aC (eV 1) (aN)))) (aN)))
def b_few_at_two_2 : Sv := sSeq (sFor (iR2 (aC (eC (.int 1)) (aC (eV 0) (aN)))) (gN 2) (b_few_at_two_l1))
    (b_few_at_two_3)
def b_few_at_two_1 : Sv := sSeq (sAsg (gN 1) (eMut (lLst (aN))))
    (b_few_at_two_2)
def b_few_at_two : Sv := sSeq (sExpr (eCall d_need_count (aC (eC (.str "most")) (aC (eV 0) (aN)))))
    (b_few_at_two_1)
def d_few_at_two : Fn := fnP 5 b_few_at_two
def b_ray_times_2 : Sv := sRet (eCall d_times_in (aC (eV 0) (aN)))
def b_ray_times_1 : Sv := sSeq (sIf (tNot (tT (eCall d_balanced_in (aC (eV 0) (aN))))) (sRaise "NotKept" ["promise", "witness"] (aC (eC (.str "balanced")) (aC (eC .non) (aN)))) (sPass))
    (b_ray_times_2)
def b_ray_times : Sv := sSeq (sExpr (eCall d_need_numbers (aC (eV 0) (aN))))
    (b_ray_times_1)
def d_ray_times : Fn := fnP 1 b_ray_times
def b_kind_in_told_5 : Sv := sRet (eTup (aC (eC (.str "eight")) (aC (e2 oAdd (e2 oIx (eCall d_times_in (aC (eV 0) (aN))) (eC (.int 0))) (eC (.int 1))) (aN))))
def b_kind_in_told_4 : Sv := sSeq (sIf (tAnd (tB (e2 oGt (eV 5) (eC (.int 2)))) (tB (e2 oEq (eV 0) (eTup (aC (e2 oMul (eV 5) (eV 5)) (aC (e2 oMul (eC (.int 2)) (e2 oSub (eV 5) (eC (.int 1)))) (aC (e2 oSub (eV 5) (eC (.int 2))) (aC (eC (.int 2)) (aN))))))))) (sRet (eTup (aC (eC (.str "squares")) (aC (eV 5) (aN))))) (sPass))
    (b_kind_in_told_5)
def b_kind_in_told_3 : Sv := sSeq (sIf (tAnd (tB (e2 oGt (eV 5) (eC (.int 4)))) (tB (e2 oEq (eV 0) (eTup (aC (e2 oDiv (e2 oMul (eV 5) (e2 oSub (eV 5) (eC (.int 1)))) (eC (.int 2))) (aC (e2 oMul (eC (.int 2)) (e2 oSub (eV 5) (eC (.int 2)))) (aC (e2 oSub (eV 5) (eC (.int 2))) (aC (eC (.int 4)) (aN))))))))) (sRet (eTup (aC (eC (.str "full")) (aC (eV 5) (aN))))) (sPass))
    (b_kind_in_told_4)
def b_kind_in_told_2 : Sv := sSeq (sAsg (gN 5) (e2 oAdd (eV 3) (eC (.int 2))))
    (b_kind_in_told_3)
def b_kind_in_told_1 : Sv := sSeq (sIf (tAnd (tB (e2 oEq (eV 2) (eV 4))) (tAnd (tB (e2 oEq (eV 1) (e2 oAdd (eV 2) (eC (.int 2))))) (tB (e2 oEq (e2 oMod (eV 1) (eC (.int 2))) (eC (.int 0)))))) (sRet (eTup (aC (eC (.str "pairs")) (aC (e2 oDiv (eV 1) (eC (.int 2))) (aN))))) (sPass))
    (b_kind_in_told_2)
def b_kind_in_told : Sv := sSeq (sAsg (gT [gN 1, gN 2, gN 3, gN 4]) (eV 0))
    (b_kind_in_told_1)
def d_kind_in_told : Fn := fnP 6 b_kind_in_told
def b_kind_at_two_1 : Sv := sRet (eIf (tT (eCall d_is_at_two (aC (eV 0) (aN)))) (eCall d_kind_in_told (aC (eV 0) (aN))) (eC .non))
def b_kind_at_two : Sv := sSeq (sExpr (eCall d_need_numbers (aC (eV 0) (aN))))
    (b_kind_at_two_1)
def d_kind_at_two : Fn := fnP 1 b_kind_at_two
def b_are_balanced_1 : Sv := sRet (eCall d_balanced_in (aC (eV 0) (aN)))
def b_are_balanced : Sv := sSeq (sExpr (eCall d_need_numbers (aC (eV 0) (aN))))
    (b_are_balanced_1)
def d_are_balanced : Fn := fnP 1 b_are_balanced
def b_can_be_1 : Sv := sRet (eCall d_can_be_in (aC (eV 0) (aN)))
def b_can_be : Sv := sSeq (sExpr (eCall d_need_numbers (aC (eV 0) (aN))))
    (b_can_be_1)
def d_can_be : Fn := fnP 1 b_can_be
def b_other_rays_1 : Sv := sRet (eCall d_rays_in (aC (eV 0) (aN)))
def b_other_rays : Sv := sSeq (sExpr (eCall d_need_numbers (aC (eV 0) (aN))))
    (b_other_rays_1)
def d_other_rays : Fn := fnP 1 b_other_rays
end Pg
end

section
set_option Elab.async false
set_option linter.all false
set_option maxRecDepth 100000
set_option maxHeartbeats 1000000
/-! WB: comprehensions and loops over typed lists; a def's end. -/
namespace Y
open PySem L2
/-- [F x for x in xs if p x], nothing changed -/
theorem compL_fm {α : Type} {g : Gv} {c : Tv} {e : Ev} {σ : Sl} {h : Hm} (T : α → D) (p : α → Bool) (F : α → D) : ∀ xs : List α, (∀ x ∈ xs, ∃ σ1, g (T x) σ = some σ1 ∧ c σ1 h = .ok (p x) h ∧ (p x = true → e σ1 h = .ok (F x) h)) →
    compL g c e σ (xs.map T) h = .ok ((xs.filter p).map F) h
  | [], _ => rfl
  | x :: xs, H => by
    obtain ⟨σ1, e1, e2, e3⟩ := H x List.mem_cons_self
    have ih := compL_fm T p F xs fun y m => H y (List.mem_cons_of_mem _ m)
    cases hp : p x with
    | true => simp [compL, e1, e2, hp, e3 hp, Rs.bindN, ih]
    | false => simp [compL, e1, e2, hp, Rs.bindN, ih]
theorem compL_m {α : Type} {g : Gv} {e : Ev} {σ : Sl} {h : Hm} (T : α → D) (F : α → D) (xs : List α) (H : ∀ x ∈ xs, ∃ σ1, g (T x) σ = some σ1 ∧ e σ1 h = .ok (F x) h) : compL g tYes e σ (xs.map T) h = .ok (xs.map F) h := by
  have q := compL_fm (g := g) (c := tYes) (e := e) (σ := σ) (h := h) T (fun _ => true) F xs fun x m => by
    obtain ⟨σ1, e1, e2⟩ := H x m
    exact ⟨σ1, e1, rfl, fun _ => e2⟩
  rw [List.filter_eq_self.mpr (by simp)] at q
  exact q
/-- two fors -/
theorem comp2L_m {α : Type} {g : Gv} {m : Sl → Hm → Rs (List D)} {σ : Sl} {h : Hm} (T : α → D) (G : α → List D) : ∀ xs : List α, (∀ x ∈ xs, ∃ σ1, g (T x) σ = some σ1 ∧ m σ1 h = .ok (G x) h) → comp2L g m σ (xs.map T) h = .ok (xs.flatMap G) h
  | [], _ => rfl
  | x :: xs, H => by
    obtain ⟨σ1, e1, e2⟩ := H x List.mem_cons_self
    have ih := comp2L_m T G xs fun y m => H y (List.mem_cons_of_mem _ m)
    simp [comp2L, e1, e2, Rs.bindN, ih]
/-- a loop that changes nothing but its own slots, to its end -/
theorem forL_keep {α : Type} {g : Gv} {b : Sv} {h : Hm} (T : α → D) (S : Sl → Prop) : ∀ (xs : List α) (σ : Sl), S σ → (∀ x ∈ xs, ∀ σ, S σ → ∃ σ1 σ2, g (T x) σ = some σ1 ∧ b σ1 h = .nx σ2 h ∧ S σ2) → ∃ σ', forL g b (xs.map T) σ h = .nx σ' h ∧ S σ'
  | [], σ, s, _ => ⟨σ, rfl, s⟩
  | x :: xs, σ, s, H => by
    obtain ⟨σ1, σ2, e1, e2, s2⟩ := H x List.mem_cons_self σ s
    obtain ⟨σ', e3, s3⟩ := forL_keep T S xs σ2 s2 fun y m => H y (List.mem_cons_of_mem _ m)
    exact ⟨σ', by simp [forL, e1, e2, e3], s3⟩
/-- .. or till it returns -/
theorem forL_ret {α : Type} {g : Gv} {b : Sv} {h : Hm} (T : α → D) (S : Sl → Prop) (p : α → Option D) : ∀ (xs : List α) (σ : Sl), S σ →
    (∀ x ∈ xs, ∀ σ, S σ → ∃ σ1, g (T x) σ = some σ1 ∧ match p x with | some d => b σ1 h = .rt d h | none => ∃ σ2, b σ1 h = .nx σ2 h ∧ S σ2) →
    match xs.findSome? p with | some d => forL g b (xs.map T) σ h = .rt d h | none => ∃ σ', forL g b (xs.map T) σ h = .nx σ' h ∧ S σ'
  | [], σ, s, _ => ⟨σ, rfl, s⟩
  | x :: xs, σ, s, H => by
    obtain ⟨σ1, e1, e2⟩ := H x List.mem_cons_self σ s
    cases hp : p x with
    | some d =>
      rw [hp] at e2
      simp [List.findSome?_cons, hp, forL, e1, e2]
    | none =>
      rw [hp] at e2
      obtain ⟨σ2, e2, s2⟩ := e2
      have ih := forL_ret T S p xs σ2 s2 fun y m => H y (List.mem_cons_of_mem _ m)
      simp only [List.findSome?_cons, hp]
      cases hq : xs.findSome? p with
      | some d => rw [hq] at ih; simpa [forL, e1, e2] using ih
      | none => rw [hq] at ih; simpa [forL, e1, e2] using ih
theorem rangeD_eq (n : Nat) : rangeD 0 n = (List.range n).map fun i => D.int (i : Nat) := by simp [rangeD]
theorem rangeD_at (i n : Nat) : rangeD (i : Nat) n = (List.range' i n).map fun j => D.int (j : Nat) := by
  rw [rangeD, List.range'_eq_map_range, List.map_map]
  apply List.map_congr_left
  intro j _
  simp
theorem seal_app (h l : Hm) : sealed h.length h (h ++ l) = true := by
  have aux : ∀ h : Hm, (h.zip h).all (fun p => decide (p.1 = p.2) || Ob.low (h ++ l).length p.1) = true := fun h => by
    rw [List.all_eq_true]
    intro p hp
    have : p.1 = p.2 := by
      clear l
      induction h with
      | nil => simp at hp
      | cons a h ih =>
        simp only [List.zip_cons_cons, List.mem_cons] at hp
        rcases hp with rfl | hp
        · rfl
        · exact ih hp
    simp [this]
  unfold sealed
  rw [List.take_left, List.all_eq_true]
  intro p hp
  have := List.all_eq_true.mp (aux h) p hp
  have e : p.1 = p.2 := by
    clear aux this l
    induction h with
    | nil => simp at hp
    | cons a h ih =>
      simp only [List.zip_cons_cons, List.mem_cons] at hp
      rcases hp with rfl | hp
      · rfl
      · exact ih hp
  simp [e]
/-- a def forgets what it made -/
theorem fin_app {h l : Hm} {d : D} (hd : D.low h.length d = true) : finP h d (h ++ l) = .ok d h := by
  unfold finP
  split
  · rename_i q
    have : l = [] := by
      have : (h ++ l).length = h.length + l.length := by simp
      cases l with
      | nil => rfl
      | cons _ _ => simp at this; simp at q
    simp [this]
  · rw [hd, seal_app]
    simp
theorem fin_same {h : Hm} {d : D} : finP h d h = .ok d h := by simp [finP]
/-- .. where an elder one was changed -/
theorem fin_one {o o' : Ob} {l : Hm} {d : D} (hd : D.low 1 d = true) (ho : Ob.low 1 o' = true) : finP [o] d (o' :: l) = .ok d [o'] := by
  unfold finP
  split
  · rename_i q
    have : l = [] := by simpa using q
    simp [this]
  · simp [hd, sealed, ho]
/-- tuples of numbers -/
def nD (p : Nat) : D := .int (p : Nat)
def rowN (r : List Nat) : D := .tup (r.map nD)
def tD (t : Nat × Nat) : D := .tup [nD t.1, nD t.2]
theorem low_ints (n : Nat) : ∀ r : List Nat, D.lowL n (r.map nD) = true
  | [] => rfl
  | x :: r => by simp [D.lowL, D.low, nD, low_ints n r]
theorem low_rows (n : Nat) : ∀ r : List (List Nat), D.lowL n (r.map rowN) = true
  | [] => rfl
  | x :: r => by simp [D.lowL, D.low, rowN, low_ints n x, low_rows n r]
theorem low_ties (n : Nat) : ∀ r : List (Nat × Nat), D.lowL n (r.map tD) = true
  | [] => rfl
  | x :: r => by simp [D.lowL, D.low, tD, nD, low_ties n r]
theorem ints_nD : ∀ r : List Nat, intsOf (r.map nD) = some (r.map fun (x : Nat) => (x : Int))
  | [] => rfl
  | x :: r => by simp [intsOf, nD, ints_nD r]
theorem at_nat {xs : List D} {i : Nat} : L2.atI xs (i : Nat) = xs[i]? := by
  unfold L2.atI L2.ixN
  rw [if_pos (by omega)]
  by_cases h : i < xs.length
  · rw [if_pos (by omega), Option.bind_some]; simp
  · rw [if_neg (by omega)]
    simp [List.getElem?_eq_none (Nat.le_of_not_lt h)]
theorem ix_tup {h : Hm} {xs : List D} {i : Nat} : oIx h (.tup xs) (.int (i : Nat)) = xs[i]? := by
  simp [oIx, dctOf, ixD, seqOf, at_nat]
theorem ix_fl {h : Hm} {xs : List D} {i : Nat} : oIx h (.fl xs) (.int (i : Nat)) = xs[i]? := by
  simp [oIx, dctOf, ixD, seqOf, lstOf, at_nat]
theorem bools_map {α : Type} (p : α → Bool) : ∀ xs : List α, bools (xs.map fun x => D.bl (p x)) = some (xs.map p)
  | [] => rfl
  | x :: xs => by simp [bools, bools_map p xs]
theorem pyL_nD (h : Hm) : ∀ r : List Nat, pyL h (r.map nD) = some (r.map fun (x : Nat) => PyData.int x)
  | [] => rfl
  | x :: r => by simp [pyL, py, nD, pyL_nD h r]
theorem can_nD : ∀ r : List Nat, PyData.canLayAll0 (r.map fun (x : Nat) => PyData.int x) = true
  | [] => rfl
  | x :: r => by simp [PyData.canLayAll0, PyData.canLay0, can_nD r]
theorem dep_nD : ∀ r : List Nat, PyData.depthAll (r.map fun (x : Nat) => PyData.int x) = 0
  | [] => rfl
  | x :: r => by simp [PyData.depthAll, PyData.depth, dep_nD r]
theorem any_nD (x : Nat) : ∀ r : List Nat, ((r.map fun (y : Nat) => PyData.int y).any fun z => PyData.eqv z (.int x)) = decide (x ∈ r)
  | [] => rfl
  | y :: r => by
    rw [List.map_cons, List.any_cons, any_nD x r]
    by_cases e : y = x
    · subst e; simp [PyData.eqv]
    · have : ((y : Int) == (x : Int)) = false := by simp; omega
      simp [PyData.eqv, this, Ne.symm e]
theorem inD_nD {h : Hm} {x : Nat} {r : List Nat} : inD h (nD x) (rowN r) = some (decide (x ∈ r)) := by
  have e : py h (nD x) = some (.int x) := rfl
  have sh : SeqAt.shaped (.list (r.map fun (x : Nat) => PyData.int x)) = true := by simp [SeqAt.shaped, PyData.canLay0, PyData.depth, can_nD, dep_nD]
  have sx : SeqAt.shaped (.int (x : Int)) = true := by simp [SeqAt.shaped, PyData.canLay0, PyData.depth]
  simp only [inD, dctOf, dtuOf, rowN, seqOf, e, pyL_nD, sh, sx, Bool.and_self, if_true, any_nD]
end Y
end

section
set_option Elab.async false
set_option linter.all false
set_option maxRecDepth 100000
set_option maxHeartbeats 1000000
/-! PL00: the plain law of k00. -/
namespace L00
open PySem Y L2
theorem dr : Draws d_u_law_draw := fun hp _ m0 m1 => draw 73327 2147483543 9311 137 23 128 (by decide) hp m0 m1
/-- a value that can be told -/
structure Told (d : D) (p : PyData) : Prop where
  py : ∀ h, Y.py h d = some p
  can : p.canLay0 = true
  dep : p.depth ≤ 9
  wid : Y.wid p ≤ 1000
theorem rep_ok {h : Hm} {x : D} {p : PyData} (e : py h x = some p) (c : p.canLay0 = true) (d : p.depth ≤ 64) (w : wid p ≤ line) : bRepr h [x] = some (.str p.shown) := by
  show (match py h x with | some p => if (SeqAt.shaped p && decide (wid p ≤ line)) = true then some (D.str p.shown) else none | none => none) = _
  rw [e]
  simp [SeqAt.shaped, c, d, w]
section
variable {h : Hm} {a b : D} {p q : PyData}
theorem rep0 : ∃ s, ∀ h, bRepr h [.tup []] = some (.str s) := ⟨_, fun h => rep_ok (h := h) (p := .tuple []) rfl (by decide) (by decide) (by decide)⟩
theorem rep1 (A : Told a p) : ∃ s, ∀ h, bRepr h [.tup [a]] = some (.str s) := ⟨_, fun h => rep_ok (h := h) (p := .tuple [p]) (by simp [py, pyL, A.py]) (by simp [PyData.canLay0, PyData.canLayAll0, A.can]) (by have := A.dep; simp [PyData.depth, PyData.depthAll]; omega) (by
  have := A.wid
  have : 100000 ≤ line := by decide
  simp only [wid, widL]; omega)⟩
theorem rep2 (A : Told a p) (B : Told b q) : ∃ s, ∀ h, bRepr h [.tup [a, b]] = some (.str s) := ⟨_, fun h => rep_ok (h := h) (p := .tuple [p, q]) (by simp [py, pyL, A.py, B.py]) (by simp [PyData.canLay0, PyData.canLayAll0, A.can, B.can]) (by have := A.dep; have := B.dep; simp [PyData.depth, PyData.depthAll]; omega) (by
  have := A.wid
  have := B.wid
  have : 100000 ≤ line := by decide
  simp only [wid, widL]; omega)⟩
end
def menu (x y : Int) : List D := [.non, .bl true, .int 0, .int x, .int y, .str "", .str "log", .tup [.int 1, .int 2], .fl [.int 3], .tup [.str "b", .str "c"], .tup [.tup [.int 0, .int 0]]]
theorem told_int {x : Int} (h : x.natAbs < 10 ^ 60) : Told (.int x) (.int x) := ⟨fun _ => rfl, rfl, by simp [PyData.depth], by rw [wid, if_pos h]; decide⟩
theorem menu_ok {x y : Int} (hx : x.natAbs < 10 ^ 60) (hy : y.natAbs < 10 ^ 60) {d : D} (m : d ∈ menu x y) : ∃ p, Told d p := by
  simp only [menu, List.mem_cons, List.not_mem_nil, or_false] at m
  rcases m with rfl | rfl | rfl | rfl | rfl | rfl | rfl | rfl | rfl | rfl | rfl
  · exact ⟨.none, fun _ => rfl, by decide, by decide, by decide⟩
  · exact ⟨.bool true, fun _ => rfl, by decide, by decide, by decide⟩
  · exact ⟨_, told_int (by decide)⟩
  · exact ⟨_, told_int hx⟩
  · exact ⟨_, told_int hy⟩
  · exact ⟨.str "", fun _ => rfl, by decide +kernel, by decide +kernel, by decide +kernel⟩
  · exact ⟨.str "log", fun _ => rfl, by decide +kernel, by decide +kernel, by decide +kernel⟩
  · exact ⟨.tuple [.int 1, .int 2], fun _ => rfl, by decide, by decide, by decide⟩
  · exact ⟨.list [.int 3], fun _ => rfl, by decide, by decide, by decide⟩
  · exact ⟨.tuple [.str "b", .str "c"], fun _ => rfl, by decide +kernel, by decide +kernel, by decide +kernel⟩
  · exact ⟨.tuple [.tuple [.int 0, .int 0]], fun _ => rfl, by decide, by decide, by decide⟩
abbrev sl (s0 s2 s3 s4 s5 s6 s7 s8 : Option D) : Sl := [s0, some (.loc 0), s2, s3, s4, s5, s6, s7, s8, none, none]
def mark (k : Nat) : D := .fl ((List.range 15).map fun (i : Nat) => .bl (decide ((i : Int) = (k : Int))))
/-- one kind of error -/
structure Kind (k : Nat) (c : Str) (ns : List Str) (ds fs : D → D → List D) : Prop where
  one : ∀ (a b : D) (h : Hm), b_u_law_one [some (.int k), some a, some b, none] h = .rt (.tup [.obj c ns (ds a b), .tup (fs a b)]) h
  fs : ∀ a b, fs a b = [] ∨ fs a b = [a] ∨ fs a b = [a, b]
  wh : ∀ (a b : D) (h : Hm), b_u_law_which [some (.obj c ns (ds a b)), none] h = .rt (mark k) h
  le : ∀ (a b : D) (h : Hm), isE "LineError" h (.obj c ns (ds a b)) = some (.bl true)
  ve : ∀ (a b : D) (h : Hm), isE "ValueError" h (.obj c ns (ds a b)) = some (.bl true)
set_option maxHeartbeats 0
theorem k0 : Kind 0 "BadName" ["name"] (fun a _ => [a]) (fun a _ => [a]) := ⟨fun a b h => by kernel_rfl, fun a b => .inr (.inl rfl), fun a b h => by kernel_rfl, fun a b h => by kernel_rfl, fun a b h => by kernel_rfl⟩
theorem k1 : Kind 1 "NoName" ["name"] (fun a _ => [a]) (fun a _ => [a]) := ⟨fun a b h => by kernel_rfl, fun a b => .inr (.inl rfl), fun a b h => by kernel_rfl, fun a b h => by kernel_rfl, fun a b h => by kernel_rfl⟩
theorem k2 : Kind 2 "TakenName" ["name"] (fun a _ => [a]) (fun a _ => [a]) := ⟨fun a b h => by kernel_rfl, fun a b => .inr (.inl rfl), fun a b h => by kernel_rfl, fun a b h => by kernel_rfl, fun a b h => by kernel_rfl⟩
theorem k3 : Kind 3 "BadWeb" ["web"] (fun a _ => [a]) (fun a _ => [a]) := ⟨fun a b h => by kernel_rfl, fun a b => .inr (.inl rfl), fun a b h => by kernel_rfl, fun a b h => by kernel_rfl, fun a b h => by kernel_rfl⟩
theorem k4 : Kind 4 "BadTable" ["table"] (fun a _ => [a]) (fun a _ => [a]) := ⟨fun a b h => by kernel_rfl, fun a b => .inr (.inl rfl), fun a b h => by kernel_rfl, fun a b h => by kernel_rfl, fun a b h => by kernel_rfl⟩
theorem k5 : Kind 5 "BadRow" ["row"] (fun a _ => [a]) (fun a _ => [a]) := ⟨fun a b h => by kernel_rfl, fun a b => .inr (.inl rfl), fun a b h => by kernel_rfl, fun a b h => by kernel_rfl, fun a b h => by kernel_rfl⟩
theorem k6 : Kind 6 "BadRows" ["rows"] (fun a _ => [a]) (fun a _ => [a]) := ⟨fun a b h => by kernel_rfl, fun a b => .inr (.inl rfl), fun a b h => by kernel_rfl, fun a b h => by kernel_rfl, fun a b h => by kernel_rfl⟩
theorem k7 : Kind 7 "BadSystem" ["system"] (fun a _ => [a]) (fun a _ => [a]) := ⟨fun a b h => by kernel_rfl, fun a b => .inr (.inl rfl), fun a b h => by kernel_rfl, fun a b h => by kernel_rfl, fun a b h => by kernel_rfl⟩
theorem k8 : Kind 8 "BadRoot" ["root"] (fun a _ => [a]) (fun a _ => [a]) := ⟨fun a b h => by kernel_rfl, fun a b => .inr (.inl rfl), fun a b h => by kernel_rfl, fun a b h => by kernel_rfl, fun a b h => by kernel_rfl⟩
theorem k9 : Kind 9 "BadPaper" ["paper"] (fun a _ => [a]) (fun a _ => [a]) := ⟨fun a b h => by kernel_rfl, fun a b => .inr (.inl rfl), fun a b h => by kernel_rfl, fun a b h => by kernel_rfl, fun a b h => by kernel_rfl⟩
theorem k10 : Kind 10 "BadText" ["column", "line"] (fun a b => [b, a]) (fun a b => [a, b]) := ⟨fun a b h => by kernel_rfl, fun a b => .inr (.inr rfl), fun a b h => by kernel_rfl, fun a b h => by kernel_rfl, fun a b h => by kernel_rfl⟩
theorem k11 : Kind 11 "BadNumber" ["number", "what"] (fun a b => [b, a]) (fun a b => [a, b]) := ⟨fun a b h => by kernel_rfl, fun a b => .inr (.inr rfl), fun a b h => by kernel_rfl, fun a b h => by kernel_rfl, fun a b h => by kernel_rfl⟩
theorem k12 : Kind 12 "NotKept" ["witness", "promise"] (fun a b => [b, a]) (fun a b => [a, b]) := ⟨fun a b h => by kernel_rfl, fun a b => .inr (.inr rfl), fun a b h => by kernel_rfl, fun a b h => by kernel_rfl, fun a b h => by kernel_rfl⟩
theorem k13 : Kind 13 "NothingToUndo" [] (fun _ _ => []) (fun _ _ => []) := ⟨fun a b h => by kernel_rfl, fun a b => .inl rfl, fun a b h => by kernel_rfl, fun a b h => by kernel_rfl, fun a b h => by kernel_rfl⟩
theorem k14 : Kind 14 "NothingToRedo" [] (fun _ _ => []) (fun _ _ => []) := ⟨fun a b h => by kernel_rfl, fun a b => .inl rfl, fun a b h => by kernel_rfl, fun a b h => by kernel_rfl, fun a b h => by kernel_rfl⟩
theorem kinds : ∀ k : Nat, k < 15 → ∃ c ns ds fs, Kind k c ns ds fs
  | 0, _ => ⟨_, _, _, _, k0⟩
  | 1, _ => ⟨_, _, _, _, k1⟩
  | 2, _ => ⟨_, _, _, _, k2⟩
  | 3, _ => ⟨_, _, _, _, k3⟩
  | 4, _ => ⟨_, _, _, _, k4⟩
  | 5, _ => ⟨_, _, _, _, k5⟩
  | 6, _ => ⟨_, _, _, _, k6⟩
  | 7, _ => ⟨_, _, _, _, k7⟩
  | 8, _ => ⟨_, _, _, _, k8⟩
  | 9, _ => ⟨_, _, _, _, k9⟩
  | 10, _ => ⟨_, _, _, _, k10⟩
  | 11, _ => ⟨_, _, _, _, k11⟩
  | 12, _ => ⟨_, _, _, _, k12⟩
  | 13, _ => ⟨_, _, _, _, k13⟩
  | 14, _ => ⟨_, _, _, _, k14⟩
  | k + 15, h => by omega
set_option maxHeartbeats 1000000
theorem bools_ne {h : Hm} (bs : List Bool) : oNe h (.fl (bs.map .bl)) (.fl (bs.map .bl)) = some (.bl false) := by
  have e1 : ∀ bs : List Bool, pyL h (bs.map .bl) = some (bs.map .bool) := fun bs => by
    induction bs with
    | nil => rfl
    | cons b bs ih => simp [pyL, py, ih]
  have e : py h (.fl (bs.map .bl)) = some (.list (bs.map .bool)) := by simp [py, e1]
  have c1 : ∀ bs : List Bool, PyData.canLayAll0 (bs.map .bool) = true := fun bs => by
    induction bs with
    | nil => rfl
    | cons b bs ih => simp [PyData.canLayAll0, PyData.canLay0, ih]
  have d1 : ∀ bs : List Bool, PyData.depthAll (bs.map .bool) = 0 := fun bs => by
    induction bs with
    | nil => rfl
    | cons b bs ih => simp [PyData.depthAll, PyData.depth, ih]
  have v1 : ∀ bs : List Bool, PyData.eqvAll (bs.map .bool) (bs.map .bool) = true := fun bs => by
    induction bs with
    | nil => rfl
    | cons b bs ih => cases b <;> simp [PyData.eqvAll, PyData.eqv, ih]
  have sh : SeqAt.shaped (.list (bs.map .bool)) = true := by simp [SeqAt.shaped, PyData.canLay0, PyData.depth, c1, d1]
  have : eqD h (.fl (bs.map .bl)) (.fl (bs.map .bl)) = some true := by
    show (match py h (.fl (bs.map .bl)), py h (.fl (bs.map .bl)) with | some a, some b => if SeqAt.shaped a && SeqAt.shaped b then some (PyData.eqv a b) else none | _, _ => none) = _
    simp only [e, sh, Bool.and_self, if_true, PyData.eqv, v1]
  rw [oNe, this]; rfl
theorem ne_str {h : Hm} {x : Str} : oNe h (.str x) (.str x) = some (.bl false) := by simp [oNe, eqD]
section
variable {o : Ob} {N : Nat} {x y : Int} {s0 s4 s5 s6 s7 s8 : Option D}
theorem up {m : Ob} (hp : PenAt [o] 0 N) : PenAt [o, m] 0 N := by
  obtain ⟨cs, q, g, c, f, hk, r⟩ := hp.ex
  exact ⟨cs, q, g, c, f, by simpa using hk, r⟩
theorem dn {m : Ob} (hp : PenAt [o, m] 0 N) : PenAt [o] 0 N := by
  obtain ⟨cs, q, g, c, f, hk, r⟩ := hp.ex
  exact ⟨cs, q, g, c, f, by simpa using hk, r⟩
theorem pickL {xs : List D} (hp : PenAt [o] 0 (N + 1)) (h0 : 0 < xs.length) (h1 : xs.length < 1000) : ∃ (d : D) (o' : Ob), d_u_law_pick [.loc 0, .loc 1] [o, .lst xs] = .ok d [o', .lst xs] ∧ d ∈ xs ∧ PenAt [o'] 0 N := by
  obtain ⟨r, o', e, r0, r1, hq⟩ := dr (up (m := .lst xs) hp) (many := xs.length) (by omega) (by omega)
  obtain ⟨d, e2, _, hd⟩ := pick_at r0 r1
  have e' : d_u_law_draw [.loc 0, .int (xs.length : Nat)] [o, .lst xs] = .ok (.int r) [o', .lst xs] := e
  refine ⟨d, o', ?_, hd, dn (m := .lst xs) hq⟩
  have ix : oIx [o', .lst xs] (.loc 1) (.int r) = some d := by simpa [oIx, dctOf, ixD, seqOf, lstOf] using e2
  simp [d_u_law_pick, b_u_law_pick, fnP, startD, sRet, Y.e2, eV, eCall, aC, aN, eB, bLen, seqOf, lstOf, e', ix, Rs.bind, ofO, Rs.out, finP]
theorem lap_ok {k : Nat} {c : Str} {ns : List Str} {ds fs : D → D → List D} (K : Kind k c ns ds fs) (hx : x.natAbs < 10 ^ 60) (hy : y.natAbs < 10 ^ 60) (hp : PenAt [o] 0 (N + 2)) :
    ∃ t4 t5 t6 t7 t8 o', b_law_l1 (sl s0 (some (.loc 1)) (some (.int k)) s4 s5 s6 s7 s8) [o, .lst (menu x y)] = .nx (sl s0 (some (.loc 1)) (some (.int k)) t4 t5 t6 t7 t8) [o', .lst (menu x y)] ∧ PenAt [o'] 0 N := by
  obtain ⟨a, o1, e1, ma, h1⟩ := pickL (N := N + 1) (xs := menu x y) hp (by simp [menu]) (by simp [menu])
  obtain ⟨b, o2, e2, mb, h2⟩ := pickL (N := N) (xs := menu x y) h1 (by simp [menu]) (by simp [menu])
  obtain ⟨p, A⟩ := menu_ok hx hy ma
  obtain ⟨q, B⟩ := menu_ok hx hy mb
  obtain ⟨r0, R0⟩ := rep0
  obtain ⟨r1, R1⟩ := rep1 A
  obtain ⟨r2, R2⟩ := rep2 A B
  have l2 : ((2 : Nat) ≤ line) = True := Y.ll 2 (by decide)
  have l3 : ((3 : Nat) ≤ line) = True := Y.ll 3 (by decide)
  have c0 : cutD [a, b] none (some 0) = [] := rfl
  have c1 : cutD [a, b] none (some 1) = [a] := rfl
  have c2 : cutD [a, b] none (some 2) = [a, b] := rfl
  have i3 : ∀ σ h, iR1 (aC (eC (.int 3)) (aN)) σ h = .ok [.int 0, .int 1, .int 2] h := fun σ h => by
    have : small 3 = true := by decide
    simp [iR1, aC, aN, eC, Rs.bind, this]
    decide
  have w1 : b_law_l1 (sl s0 (some (.loc 1)) (some (.int k)) s4 s5 s6 s7 s8) [o, .lst (menu x y)] = b_law_l1_1 (sl s0 (some (.loc 1)) (some (.int k)) (some a) (some b) s6 s7 s8) [o2, .lst (menu x y)] := by
    simp only [b_law_l1, sSeq, sAsg, eTup, eCall, aC, aN, eV, sl, List.getElem?_cons_zero, List.getElem?_cons_succ, Rs.bind, Rs.out, e1, e2, List.length_cons, List.length_nil, l2, if_true, gT, gTs, gN, outO, List.set_cons_succ, List.set_cons_zero]
    rfl
  have w2 : b_law_l1_1 (sl s0 (some (.loc 1)) (some (.int k)) (some a) (some b) s6 s7 s8) [o2, .lst (menu x y)] = b_law_l1_2 (sl s0 (some (.loc 1)) (some (.int k)) (some a) (some b) (some (.fl [.str r0, .str r1, .str r2])) s7 s8) [o2, .lst (menu x y)] := by
    have cc : lComp (iR1 (aC (eC (.int 3)) (aN))) (gN 9) Y.tYes (eB bRepr (aC (eSl (eTup (aC (eV 4) (aC (eV 5) (aN)))) (oN) (oS (eV 9))) (aN))) [9] (sl s0 (some (.loc 1)) (some (.int k)) (some a) (some b) s6 s7 s8) [o2, .lst (menu x y)] = .ok [.str r0, .str r1, .str r2] [o2, .lst (menu x y)] := by
      simp only [lComp, i3, Rs.bind, compL, gN, sl, unset, List.set_cons_succ, List.set_cons_zero, Y.tYes, Rs.bindN, if_true, eB, aC, aN, eSl, eTup, oN, oS, eV, List.getElem?_cons_zero, List.getElem?_cons_succ, List.length_cons, List.length_nil, l2, c0, c1, c2, R0, R1, R2, ofO, l3]
    simp only [b_law_l1_1, sSeq, sAsg, eFrz, cc, Rs.bind, Rs.out, gN, outO, sl, List.set_cons_succ, List.set_cons_zero]
  have one : d_u_law_one [.int k, a, b] [o2, .lst (menu x y)] = .ok (.tup [.obj c ns (ds a b), .tup (fs a b)]) [o2, .lst (menu x y)] := by
    have : d_u_law_one [.int k, a, b] [o2, .lst (menu x y)] = (match b_u_law_one [some (.int k), some a, some b, none] [o2, .lst (menu x y)] with | .rt d h' => finP [o2, .lst (menu x y)] d h' | .nx _ h' => finP [o2, .lst (menu x y)] .non h' | .ex e _ h' => .ex e h' | _ => .bad) := rfl
    rw [this, K.one]
    simp [finP]
  have whi : d_u_law_which [.obj c ns (ds a b)] [o2, .lst (menu x y)] = .ok (mark k) [o2, .lst (menu x y)] := by
    have : d_u_law_which [.obj c ns (ds a b)] [o2, .lst (menu x y)] = (match b_u_law_which [some (.obj c ns (ds a b)), none] [o2, .lst (menu x y)] with | .rt d h' => finP [o2, .lst (menu x y)] d h' | .nx _ h' => finP [o2, .lst (menu x y)] .non h' | .ex e _ h' => .ex e h' | _ => .bad) := rfl
    rw [this, K.wh]
    simp [finP]
  have w3 : b_law_l1_2 (sl s0 (some (.loc 1)) (some (.int k)) (some a) (some b) (some (.fl [.str r0, .str r1, .str r2])) s7 s8) [o2, .lst (menu x y)] = b_law_l1_3 (sl s0 (some (.loc 1)) (some (.int k)) (some a) (some b) (some (.fl [.str r0, .str r1, .str r2])) (some (.obj c ns (ds a b))) (some (.tup (fs a b)))) [o2, .lst (menu x y)] := by
    simp only [b_law_l1_2, sSeq, sAsg, eCall, aC, aN, eV, sl, List.getElem?_cons_zero, List.getElem?_cons_succ, Rs.bind, Rs.out, one, gT, gTs, gN, outO, List.set_cons_succ, List.set_cons_zero]
    rfl
  have w4 : b_law_l1_3 (sl s0 (some (.loc 1)) (some (.int k)) (some a) (some b) (some (.fl [.str r0, .str r1, .str r2])) (some (.obj c ns (ds a b))) (some (.tup (fs a b)))) [o2, .lst (menu x y)] = b_law_l1_4 (sl s0 (some (.loc 1)) (some (.int k)) (some a) (some b) (some (.fl [.str r0, .str r1, .str r2])) (some (.obj c ns (ds a b))) (some (.tup (fs a b)))) [o2, .lst (menu x y)] := by
    have x0 : oIx [o2, .lst (menu x y)] (.fl [.str r0, .str r1, .str r2]) (.int 0) = some (.str r0) := rfl
    have x1 : oIx [o2, .lst (menu x y)] (.fl [.str r0, .str r1, .str r2]) (.int 1) = some (.str r1) := rfl
    have x2 : oIx [o2, .lst (menu x y)] (.fl [.str r0, .str r1, .str r2]) (.int 2) = some (.str r2) := rfl
    rcases K.fs a b with e | e | e <;> rw [e] <;> simp [b_law_l1_3, sSeq, sIf, sPass, Y.tB, Y.e2, eB, aC, aN, eV, sl, Rs.bind, Rs.out, R0, R1, R2, bLen, seqOf, ofO, x0, x1, x2, ne_str]
  have w5 : b_law_l1_4 (sl s0 (some (.loc 1)) (some (.int k)) (some a) (some b) (some (.fl [.str r0, .str r1, .str r2])) (some (.obj c ns (ds a b))) (some (.tup (fs a b)))) [o2, .lst (menu x y)] = b_law_l1_5 (sl s0 (some (.loc 1)) (some (.int k)) (some a) (some b) (some (.fl [.str r0, .str r1, .str r2])) (some (.obj c ns (ds a b))) (some (.tup (fs a b)))) [o2, .lst (menu x y)] := by
    have le := K.le a b [o2, .lst (menu x y)]
    have ve := K.ve a b [o2, .lst (menu x y)]
    simp only [b_law_l1_4, sSeq, sIf, sPass, Y.tOr, Y.tNot, Y.tT, Y.e1, eV, sl, List.getElem?_cons_zero, List.getElem?_cons_succ, Rs.bind, Rs.out, le, ve, ofO, truth, Bool.not_true, Bool.false_eq_true, if_false]
  have w6 : b_law_l1_5 (sl s0 (some (.loc 1)) (some (.int k)) (some a) (some b) (some (.fl [.str r0, .str r1, .str r2])) (some (.obj c ns (ds a b))) (some (.tup (fs a b)))) [o2, .lst (menu x y)] = .nx (sl s0 (some (.loc 1)) (some (.int k)) (some a) (some b) (some (.fl [.str r0, .str r1, .str r2])) (some (.obj c ns (ds a b))) (some (.tup (fs a b)))) [o2, .lst (menu x y)] := by
    have cc : lComp (iR1 (aC (eC (.int 15)) (aN))) (gN 10) Y.tYes (Y.e2 oEq (eV 10) (eV 3)) [10] (sl s0 (some (.loc 1)) (some (.int k)) (some a) (some b) (some (.fl [.str r0, .str r1, .str r2])) (some (.obj c ns (ds a b))) (some (.tup (fs a b)))) [o2, .lst (menu x y)] = .ok ((List.range 15).map fun (i : Nat) => .bl (decide ((i : Int) = (k : Int)))) [o2, .lst (menu x y)] := by
      have i15 : iR1 (aC (eC (.int 15)) (aN)) (sl s0 (some (.loc 1)) (some (.int k)) (some a) (some b) (some (.fl [.str r0, .str r1, .str r2])) (some (.obj c ns (ds a b))) (some (.tup (fs a b)))) [o2, .lst (menu x y)] = .ok ((List.range 15).map nD) [o2, .lst (menu x y)] := by
        have : small 15 = true := by decide
        have r15 : rangeD 0 15 = (List.range 15).map nD := rangeD_eq 15
        simp only [iR1, aC, aN, eC, Rs.bind, this, if_true]
        rw [← r15]; rfl
      have cm := compL_m (g := gN 10) (e := Y.e2 oEq (eV 10) (eV 3)) (σ := sl s0 (some (.loc 1)) (some (.int k)) (some a) (some b) (some (.fl [.str r0, .str r1, .str r2])) (some (.obj c ns (ds a b))) (some (.tup (fs a b)))) (h := [o2, .lst (menu x y)]) nD (fun (i : Nat) => .bl (decide ((i : Int) = (k : Int)))) (List.range 15) fun i m => ⟨_, rfl, by
        simp only [Y.e2, eV, sl, List.set_cons_succ, List.set_cons_zero, List.getElem?_cons_zero, List.getElem?_cons_succ, Rs.bind, oEq, eqD, nD, Option.map_some, ofO]⟩
      have u0 : unset (sl s0 (some (.loc 1)) (some (.int k)) (some a) (some b) (some (.fl [.str r0, .str r1, .str r2])) (some (.obj c ns (ds a b))) (some (.tup (fs a b)))) [10] = sl s0 (some (.loc 1)) (some (.int k)) (some a) (some b) (some (.fl [.str r0, .str r1, .str r2])) (some (.obj c ns (ds a b))) (some (.tup (fs a b))) := rfl
      have l15 : ((15 : Nat) ≤ line) = True := Y.ll 15 (by decide)
      simp only [lComp, i15, Rs.bind, u0, cm, List.length_map, List.length_range, l15, if_true]
    have ne : oNe [o2, .lst (menu x y)] (mark k) (.fl ((List.range 15).map fun (i : Nat) => .bl (decide ((i : Int) = (k : Int))))) = some (.bl false) := by
      have e : (.fl ((List.range 15).map fun (i : Nat) => .bl (decide ((i : Int) = (k : Int)))) : D) = .fl (((List.range 15).map fun (i : Nat) => decide ((i : Int) = (k : Int))).map .bl) := by rw [List.map_map]; rfl
      rw [mark, e]
      exact bools_ne _
    simp only [b_law_l1_5, sIf, sPass, Y.tB, Y.e2, eFrz, cc, eCall, aC, aN, eV, sl, List.getElem?_cons_zero, List.getElem?_cons_succ, Rs.bind, Rs.out, whi, ne, ofO, Bool.false_eq_true, if_false]
  exact ⟨_, _, _, _, _, o2, by rw [w1, w2, w3, w4, w5, w6], h2⟩
theorem laps_ok (hx : x.natAbs < 10 ^ 60) (hy : y.natAbs < 10 ^ 60) : ∀ (ks : List Nat) (o : Ob) (N : Nat) (s3 s4 s5 s6 s7 s8 : Option D), (∀ k ∈ ks, k < 15) → PenAt [o] 0 (N + 2 * ks.length) →
    ∃ t3 t4 t5 t6 t7 t8 o', forL (gN 3) b_law_l1 (ks.map nD) (sl s0 (some (.loc 1)) s3 s4 s5 s6 s7 s8) [o, .lst (menu x y)] = .nx (sl s0 (some (.loc 1)) t3 t4 t5 t6 t7 t8) [o', .lst (menu x y)] ∧ PenAt [o'] 0 N
  | [], o, N, s3, s4, s5, s6, s7, s8, _, hp => ⟨s3, s4, s5, s6, s7, s8, o, rfl, by simpa using hp⟩
  | k :: ks, o, N, s3, s4, s5, s6, s7, s8, hk, hp => by
    obtain ⟨c, ns, ds, fs, K⟩ := kinds k (hk k List.mem_cons_self)
    rw [List.length_cons, Nat.mul_succ] at hp
    obtain ⟨a, b, c', d, e, o1, e1, h1⟩ := lap_ok (s0 := s0) (s4 := s4) (s5 := s5) (s6 := s6) (s7 := s7) (s8 := s8) (o := o) (N := N + 2 * ks.length) K hx hy hp
    obtain ⟨t3, t4, t5, t6, t7, t8, o2, e2, h2⟩ := laps_ok hx hy ks o1 N (some (.int k)) a b c' d e (fun j m => hk j (List.mem_cons_of_mem _ m)) h1
    refine ⟨t3, t4, t5, t6, t7, t8, o2, ?_, h2⟩
    have g : gN 3 (nD k) (sl s0 (some (.loc 1)) s3 s4 s5 s6 s7 s8) = some (sl s0 (some (.loc 1)) (some (.int k)) s4 s5 s6 s7 s8) := rfl
    rw [List.map_cons, forL, g]
    simp only [e1, e2]
end
theorem law_true (ns : List Int) (hl : ns.length ≤ 63) : LawTrue d_law ns := by
  obtain ⟨o, e, hp⟩ := pen_made 0 137 1000000033 (by decide) ns hl []
  have e' : d_u_law_pen [.sq (ns.map .int)] [] = .ok (.loc 0) [o] := e
  have hp' : PenAt [o] 0 999999999 := hp
  obtain ⟨r1, o1, e1, a0, a1, h1⟩ := draws1 dr (n := 999999998) hp' (many := 9) (by decide) (by decide)
  obtain ⟨r2, o2, e2, b0, b1, h2⟩ := draws1 dr (n := 999999997) h1 (many := 99) (by decide) (by decide)
  obtain ⟨x, ex⟩ : ∃ x, x = -1 - r1 := ⟨_, rfl⟩
  obtain ⟨y, ey⟩ : ∃ y, y = 10000000000000000000000000000000000000000 + r2 := ⟨_, rfl⟩
  have hx : x.natAbs < 10 ^ 60 := by
    have : (1000 : Nat) < 10 ^ 60 := by decide
    omega
  have hy : y.natAbs < 10 ^ 60 := by
    have : (10000000000000000000000000000000000001000 : Nat) < 10 ^ 60 := by decide
    omega
  have start : b_law (startD 11 [.sq (ns.map .int)]) [] = b_law_1 (sl (some (.sq (ns.map .int))) none none none none none none none) [o] := by
    simp [b_law, sSeq, sAsg, eCall, aC, aN, eV, startD, Rs.bind, Rs.out, e', gN, outO]
  have w1 : b_law_1 (sl (some (.sq (ns.map .int))) none none none none none none none) [o] = b_law_3 (sl (some (.sq (ns.map .int))) (some (.loc 1)) none none none none none none) [o2, .lst (menu x y)] := by
    have po : ∀ h, oPow h (.int 10) (.int 40) = some (.int 10000000000000000000000000000000000000000) := fun h => by kernel_rfl
    have ne : ∀ h, uNeg h (.int 1) = some (.int (-1)) := fun h => rfl
    have sb : ∀ h, oSub h (.int (-1)) (.int r1) = some (.int x) := fun h => by rw [ex]; rfl
    have ad : ∀ h, oAdd h (.int 10000000000000000000000000000000000000000) (.int r2) = some (.int y) := fun h => by rw [ey]; rfl
    have l0 : ((1 : Nat) ≤ line) = True := Y.ll 1 (by decide)
    have l2 : ((2 : Nat) ≤ line) = True := Y.ll 2 (by decide)
    have l10 : ((10 : Nat) ≤ line) = True := Y.ll 10 (by decide)
    have lt : ((10 : Nat) < line) = True := eq_true (by decide)
    generalize hY : (10000000000000000000000000000000000000000 : Int) = Y0 at po ad
    have k1 : b_law_1 (sl (some (.sq (ns.map .int))) none none none none none none none) [o] = b_law_2 (sl (some (.sq (ns.map .int))) (some (.loc 1)) none none none none none none) [o2, .lst [.non, .bl true, .int 0, .int x, .int y, .str "", .str "log", .tup [.int 1, .int 2], .fl [.int 3], .tup [.str "b", .str "c"]]] := by
      simp only [b_law_1, sSeq, sAsg, eMut, lLst, aC, aN, eC, eV, sl, Y.e1, Y.e2, eCall, eTup, eFrz, List.getElem?_cons_zero, List.getElem?_cons_succ, Rs.bind, Rs.out, e1, e2, po, ne, sb, ad, ofO, List.length_cons, List.length_nil, Nat.zero_add, Nat.reduceAdd, l0, l2, l10, if_true, gN, outO, List.set_cons_succ, List.set_cons_zero, List.cons_append, List.nil_append]
    have k2 : b_law_2 (sl (some (.sq (ns.map .int))) (some (.loc 1)) none none none none none none) [o2, .lst [.non, .bl true, .int 0, .int x, .int y, .str "", .str "log", .tup [.int 1, .int 2], .fl [.int 3], .tup [.str "b", .str "c"]]] = b_law_3 (sl (some (.sq (ns.map .int))) (some (.loc 1)) none none none none none none) [o2, .lst (menu x y)] := by
      simp only [b_law_2, sSeq, sApp, eTup, aC, aN, eC, eV, sl, List.getElem?_cons_zero, List.getElem?_cons_succ, Rs.bind, Rs.out, isLst, if_true, List.length_cons, List.length_nil, Nat.zero_add, Nat.reduceAdd, l0, l2, appD, lt, List.set_cons_succ, List.set_cons_zero, List.cons_append, List.nil_append]
      rfl
    rw [k1, k2]
  obtain ⟨t3, t4, t5, t6, t7, t8, o3, e3, h3⟩ := laps_ok (s0 := some (.sq (ns.map .int))) hx hy (List.range 15) o2 1000 none none none none none none (fun k m => List.mem_range.mp m) (h2.mono (by decide))
  have i15 : iR1 (aC (eC (.int 15)) (aN)) (sl (some (.sq (ns.map .int))) (some (.loc 1)) none none none none none none) [o2, .lst (menu x y)] = .ok ((List.range 15).map nD) [o2, .lst (menu x y)] := by
    have : small 15 = true := by decide
    have r15 : rangeD 0 15 = (List.range 15).map nD := rangeD_eq 15
    simp only [iR1, aC, aN, eC, Rs.bind, this, if_true]
    rw [← r15]; rfl
  have w3 : b_law_3 (sl (some (.sq (ns.map .int))) (some (.loc 1)) none none none none none none) [o2, .lst (menu x y)] = .rt (.bl true) [o3, .lst (menu x y)] := by
    unfold b_law_3 sSeq sFor
    rw [i15]
    simp only [Rs.out, e3, b_law_4, sRet, eC]
  refine ⟨[], ?_⟩
  unfold d_law fnP
  rw [start, w1, w3]
  simp [finP, D.low, sealed]
end L00
end

section
set_option Elab.async false
set_option linter.all false
set_option maxRecDepth 100000
set_option maxHeartbeats 4000000
namespace K00
open PySem PySem.Spec PyProof.Rows L2 Y
def top (i : Nat) : Stmt := PySem.Challenge.pw_sixtylines_k00_errors.main.body.getD i (.Pass ⟨0, 0, 0, 0⟩)
section
variable {P : Program} {w : World} {K : PySem.W.Frag} {mg : Str → Option Value} {base : Heap} {cl : Nat → Addr} {f : Addr} {fd : FuncData}
abbrev s_u_law_pen : Stmt := top 18
def b_u_law_pen_l1 : Sv := sAsg (gN 1) (e2 oMod (eB bInt (aC (e2 oAdd (e2 oMul (eV 1) (eC (.int 137))) (eV 2)) (aN))) (eC (.int 1000000033)))
def b_u_law_pen_2 : Sv := sRet (eDct (pC (eC (.str "cells")) (eFrz (lB mList (aC (eV 0) (aN)))) (pC (eC (.str "at")) (eC (.int 0)) (pC (eC (.str "digits")) (eC (.int 0)) (pC (eC (.str "count")) (eC (.int 0)) (pC (eC (.str "fold")) (eV 1) (pN)))))))
def b_u_law_pen_1 : Sv := sSeq (sFor (iA (eV 0)) (gN 2) (b_u_law_pen_l1))
    (b_u_law_pen_2)
def b_u_law_pen : Sv := sSeq (sAsg (gN 1) (eC (.int 0)))
    (b_u_law_pen_1)
def d_u_law_pen : Fn := fnK 3 b_u_law_pen
theorem sc_u_law_pen : FnScope ["script", "fold", "cell"] ["script"] (defScope s_u_law_pen) := ⟨rfl, rfl, rfl, by decide +kernel, rfl, by decide +kernel, by decide +kernel⟩
theorem fn_u_law_pen (F : Fun K "_law_pen" "_law_pen" s_u_law_pen f fd) (z_int : mg "int" = none) (z_list : mg "list" = none)       :
    FnG P w K mg base 1 f fd ["script"] (spP K cl 1 d_u_law_pen) := by
  refine fn_K (N := ["script", "fold", "cell"]) F sc_u_law_pen ?_
  rintro ⟨prog, w2, K2, mg2, base2, A, N, s0, H0, ⟨sc, lo, gl, ce, qu, fu, co, fr, bl⟩, outer, stack, ex, fn, calm, pn, xe⟩ e1 e2 e3 e4 e5 e6 e7 e8 e9 e10 E c tk hp
  dsimp only at e1 e2 e3 e4 e5 e6 e7 e8 e9 e10
  subst e1 e2 e3 e4 e5 e6 e7 e8 e9 e10
  exact ss_cons (s_set (j := 1) c.nd (s_int))
    (ss_cons (s_for hp c.calm (i_any (s_v 0)) (g_n 2 c.nd) (ss_one (s_set (j := 1) c.nd (s_op y_mod (s_bT c_int rfl z_int rfl (a_cons (s_op y_add (s_op y_mul (s_v 1) (s_int)) (s_v 2)) (a_nil))) (s_int)))))
    (ss_one (s_ret (s_dct (p_cons (s_str) (s_frz (l_bT c_list rfl z_list rfl (a_cons (s_v 0) (a_nil)))) (p_cons (s_str) (s_int) (p_cons (s_str) (s_int) (p_cons (s_str) (s_int) (p_cons (s_str) (s_v 1) (p_nil)))))) (by rfl) (by rfl) (by decide) (by decide)))))
abbrev s_u_law_one : Stmt := top 21
def b_u_law_one_11 : Sv := sRet (eTup (aC (eIf (tB (e2 oEq (eV 0) (eC (.int 13)))) (eMk0 "NothingToUndo") (eMk0 "NothingToRedo")) (aC (eTup (aN)) (aN))))
def b_u_law_one_10 : Sv := sSeq (sIf (tB (e2 oEq (eV 0) (eC (.int 12)))) (sSeq (sAsg (gN 3) (eMkE "NotKept" ["promise", "witness"] (aC (eV 1) (aC (eV 2) (aN)))))
    (sRet (eTup (aC (eV 3) (aC (eTup (aC (e1 (oFldE ["NotKept"] "promise") (eV 3)) (aC (e1 (oFldE ["NotKept"] "witness") (eV 3)) (aN)))) (aN)))))) (sPass))
    (b_u_law_one_11)
def b_u_law_one_9 : Sv := sSeq (sIf (tB (e2 oEq (eV 0) (eC (.int 11)))) (sSeq (sAsg (gN 3) (eMkE "BadNumber" ["what", "number"] (aC (eV 1) (aC (eV 2) (aN)))))
    (sRet (eTup (aC (eV 3) (aC (eTup (aC (e1 (oFldE ["BadNumber"] "what") (eV 3)) (aC (e1 (oFldE ["BadNumber"] "number") (eV 3)) (aN)))) (aN)))))) (sPass))
    (b_u_law_one_10)
def b_u_law_one_8 : Sv := sSeq (sIf (tB (e2 oEq (eV 0) (eC (.int 10)))) (sSeq (sAsg (gN 3) (eMkE "BadText" ["line", "column"] (aC (eV 1) (aC (eV 2) (aN)))))
    (sRet (eTup (aC (eV 3) (aC (eTup (aC (e1 (oFldE ["BadText"] "line") (eV 3)) (aC (e1 (oFldE ["BadText"] "column") (eV 3)) (aN)))) (aN)))))) (sPass))
    (b_u_law_one_9)
def b_u_law_one_7 : Sv := sSeq (sIf (tB (e2 oEq (eV 0) (eC (.int 9)))) (sSeq (sAsg (gN 3) (eMkE "BadPaper" ["paper"] (aC (eV 1) (aN))))
    (sRet (eTup (aC (eV 3) (aC (eTup (aC (e1 (oFldE ["BadPaper"] "paper") (eV 3)) (aN))) (aN)))))) (sPass))
    (b_u_law_one_8)
def b_u_law_one_6 : Sv := sSeq (sIf (tB (e2 oEq (eV 0) (eC (.int 8)))) (sSeq (sAsg (gN 3) (eMkE "BadRoot" ["root"] (aC (eV 1) (aN))))
    (sRet (eTup (aC (eV 3) (aC (eTup (aC (e1 (oFldE ["BadRoot"] "root") (eV 3)) (aN))) (aN)))))) (sPass))
    (b_u_law_one_7)
def b_u_law_one_5 : Sv := sSeq (sIf (tB (e2 oEq (eV 0) (eC (.int 7)))) (sSeq (sAsg (gN 3) (eMkE "BadSystem" ["system"] (aC (eV 1) (aN))))
    (sRet (eTup (aC (eV 3) (aC (eTup (aC (e1 (oFldE ["BadSystem"] "system") (eV 3)) (aN))) (aN)))))) (sPass))
    (b_u_law_one_6)
def b_u_law_one_4 : Sv := sSeq (sIf (tB (e2 oEq (eV 0) (eC (.int 6)))) (sSeq (sAsg (gN 3) (eMkE "BadRows" ["rows"] (aC (eV 1) (aN))))
    (sRet (eTup (aC (eV 3) (aC (eTup (aC (e1 (oFldE ["BadRows"] "rows") (eV 3)) (aN))) (aN)))))) (sPass))
    (b_u_law_one_5)
def b_u_law_one_3 : Sv := sSeq (sIf (tB (e2 oEq (eV 0) (eC (.int 5)))) (sSeq (sAsg (gN 3) (eMkE "BadRow" ["row"] (aC (eV 1) (aN))))
    (sRet (eTup (aC (eV 3) (aC (eTup (aC (e1 (oFldE ["BadRow"] "row") (eV 3)) (aN))) (aN)))))) (sPass))
    (b_u_law_one_4)
def b_u_law_one_2 : Sv := sSeq (sIf (tB (e2 oEq (eV 0) (eC (.int 4)))) (sSeq (sAsg (gN 3) (eMkE "BadTable" ["table"] (aC (eV 1) (aN))))
    (sRet (eTup (aC (eV 3) (aC (eTup (aC (e1 (oFldE ["BadTable"] "table") (eV 3)) (aN))) (aN)))))) (sPass))
    (b_u_law_one_3)
def b_u_law_one_1 : Sv := sSeq (sIf (tB (e2 oEq (eV 0) (eC (.int 3)))) (sSeq (sAsg (gN 3) (eMkE "BadWeb" ["web"] (aC (eV 1) (aN))))
    (sRet (eTup (aC (eV 3) (aC (eTup (aC (e1 (oFldE ["BadWeb"] "web") (eV 3)) (aN))) (aN)))))) (sPass))
    (b_u_law_one_2)
def b_u_law_one : Sv := sSeq (sIf (tB (e2 oLt (eV 0) (eC (.int 3)))) (sSeq (sAsg (gN 3) (e2 oIx (eFrz (lLst (aC (eMkE "BadName" ["name"] (aC (eV 1) (aN))) (aC (eMkE "NoName" ["name"] (aC (eV 1) (aN))) (aC (eMkE "TakenName" ["name"] (aC (eV 1) (aN))) (aN)))))) (eV 0)))
    (sRet (eTup (aC (eV 3) (aC (eTup (aC (e1 (oFldE ["BadName", "NoName", "TakenName"] "name") (eV 3)) (aN))) (aN)))))) (sPass))
    (b_u_law_one_1)
def d_u_law_one : Fn := fnP 4 b_u_law_one
theorem sc_u_law_one : FnScope ["kind", "a", "b", "e"] ["kind", "a", "b"] (defScope s_u_law_one) := ⟨rfl, rfl, rfl, by decide +kernel, rfl, by decide +kernel, by decide +kernel⟩
theorem fn_u_law_one (F : Fun K "_law_one" "_law_one" s_u_law_one f fd)   (E_TakenName : Exc P w K mg base "TakenName" ["name"]) (E_NoName : Exc P w K mg base "NoName" ["name"]) (E_BadName : Exc P w K mg base "BadName" ["name"]) (E_BadWeb : Exc P w K mg base "BadWeb" ["web"]) (E_BadTable : Exc P w K mg base "BadTable" ["table"]) (E_BadRow : Exc P w K mg base "BadRow" ["row"]) (E_BadRows : Exc P w K mg base "BadRows" ["rows"]) (E_BadSystem : Exc P w K mg base "BadSystem" ["system"]) (E_BadRoot : Exc P w K mg base "BadRoot" ["root"]) (E_BadPaper : Exc P w K mg base "BadPaper" ["paper"]) (E_BadText : Exc P w K mg base "BadText" ["line", "column"]) (E_BadNumber : Exc P w K mg base "BadNumber" ["what", "number"]) (E_NotKept : Exc P w K mg base "NotKept" ["promise", "witness"])   (XA : ExcA K)  (XN_name : ExcNo K ["BadName", "NoName", "TakenName"] "name")  (XN_web : ExcNo K ["BadWeb"] "web")  (XN_table : ExcNo K ["BadTable"] "table")  (XN_row : ExcNo K ["BadRow"] "row")  (XN_rows : ExcNo K ["BadRows"] "rows")  (XN_system : ExcNo K ["BadSystem"] "system")  (XN_root : ExcNo K ["BadRoot"] "root")  (XN_paper : ExcNo K ["BadPaper"] "paper")  (XN_column : ExcNo K ["BadText"] "column")  (XN_line : ExcNo K ["BadText"] "line")  (XN_number : ExcNo K ["BadNumber"] "number")  (XN_what : ExcNo K ["BadNumber"] "what")  (XN_witness : ExcNo K ["NotKept"] "witness")  (XN_promise : ExcNo K ["NotKept"] "promise")  (E0_NothingToUndo : Exc0 K mg "NothingToUndo")  (E0_NothingToRedo : Exc0 K mg "NothingToRedo")   :
    FnG P w K mg base 3 f fd ["kind", "a", "b"] (spP K cl 3 d_u_law_one) := by
  refine fn_P (N := ["kind", "a", "b", "e"]) F sc_u_law_one ?_
  rintro ⟨prog, w2, K2, mg2, base2, A, N, s0, H0, ⟨sc, lo, gl, ce, qu, fu, co, fr, bl⟩, outer, stack, ex, fn, calm, pn, xe⟩ e1 e2 e3 e4 e5 e6 e7 e8 e9 e10 E c tk hp
  dsimp only at e1 e2 e3 e4 e5 e6 e7 e8 e9 e10
  subst e1 e2 e3 e4 e5 e6 e7 e8 e9 e10
  exact ss_cons (s_ifS (t_cmp (y_lt c) (s_v 0) (s_int) rfl) (ss_cons (s_set (j := 3) c.nd (s_ix c (s_frz (l_lst (a_cons (s_mkE E_BadName c (by decide) (by decide) (a_cons (s_v 1) (a_nil))) (a_cons (s_mkE E_NoName c (by decide) (by decide) (a_cons (s_v 1) (a_nil))) (a_cons (s_mkE E_TakenName c (by decide) (by decide) (a_cons (s_v 1) (a_nil))) (a_nil)))))) (s_v 0) (fun _ _ => rfl)))
    (ss_one (s_ret (s_tup (a_cons (s_v 3) (a_cons (s_tup (a_cons (s_flE XA XN_name (s_v 3)) (a_nil))) (a_nil))))))) (ss_nil))
    (ss_cons (s_ifS (t_cmp (y_eq c) (s_v 0) (s_int) rfl) (ss_cons (s_set (j := 3) c.nd (s_mkE E_BadWeb c (by decide) (by decide) (a_cons (s_v 1) (a_nil))))
    (ss_one (s_ret (s_tup (a_cons (s_v 3) (a_cons (s_tup (a_cons (s_flE XA XN_web (s_v 3)) (a_nil))) (a_nil))))))) (ss_nil))
    (ss_cons (s_ifS (t_cmp (y_eq c) (s_v 0) (s_int) rfl) (ss_cons (s_set (j := 3) c.nd (s_mkE E_BadTable c (by decide) (by decide) (a_cons (s_v 1) (a_nil))))
    (ss_one (s_ret (s_tup (a_cons (s_v 3) (a_cons (s_tup (a_cons (s_flE XA XN_table (s_v 3)) (a_nil))) (a_nil))))))) (ss_nil))
    (ss_cons (s_ifS (t_cmp (y_eq c) (s_v 0) (s_int) rfl) (ss_cons (s_set (j := 3) c.nd (s_mkE E_BadRow c (by decide) (by decide) (a_cons (s_v 1) (a_nil))))
    (ss_one (s_ret (s_tup (a_cons (s_v 3) (a_cons (s_tup (a_cons (s_flE XA XN_row (s_v 3)) (a_nil))) (a_nil))))))) (ss_nil))
    (ss_cons (s_ifS (t_cmp (y_eq c) (s_v 0) (s_int) rfl) (ss_cons (s_set (j := 3) c.nd (s_mkE E_BadRows c (by decide) (by decide) (a_cons (s_v 1) (a_nil))))
    (ss_one (s_ret (s_tup (a_cons (s_v 3) (a_cons (s_tup (a_cons (s_flE XA XN_rows (s_v 3)) (a_nil))) (a_nil))))))) (ss_nil))
    (ss_cons (s_ifS (t_cmp (y_eq c) (s_v 0) (s_int) rfl) (ss_cons (s_set (j := 3) c.nd (s_mkE E_BadSystem c (by decide) (by decide) (a_cons (s_v 1) (a_nil))))
    (ss_one (s_ret (s_tup (a_cons (s_v 3) (a_cons (s_tup (a_cons (s_flE XA XN_system (s_v 3)) (a_nil))) (a_nil))))))) (ss_nil))
    (ss_cons (s_ifS (t_cmp (y_eq c) (s_v 0) (s_int) rfl) (ss_cons (s_set (j := 3) c.nd (s_mkE E_BadRoot c (by decide) (by decide) (a_cons (s_v 1) (a_nil))))
    (ss_one (s_ret (s_tup (a_cons (s_v 3) (a_cons (s_tup (a_cons (s_flE XA XN_root (s_v 3)) (a_nil))) (a_nil))))))) (ss_nil))
    (ss_cons (s_ifS (t_cmp (y_eq c) (s_v 0) (s_int) rfl) (ss_cons (s_set (j := 3) c.nd (s_mkE E_BadPaper c (by decide) (by decide) (a_cons (s_v 1) (a_nil))))
    (ss_one (s_ret (s_tup (a_cons (s_v 3) (a_cons (s_tup (a_cons (s_flE XA XN_paper (s_v 3)) (a_nil))) (a_nil))))))) (ss_nil))
    (ss_cons (s_ifS (t_cmp (y_eq c) (s_v 0) (s_int) rfl) (ss_cons (s_set (j := 3) c.nd (s_mkE E_BadText c (by decide) (by decide) (a_cons (s_v 1) (a_cons (s_v 2) (a_nil)))))
    (ss_one (s_ret (s_tup (a_cons (s_v 3) (a_cons (s_tup (a_cons (s_flE XA XN_line (s_v 3)) (a_cons (s_flE XA XN_column (s_v 3)) (a_nil)))) (a_nil))))))) (ss_nil))
    (ss_cons (s_ifS (t_cmp (y_eq c) (s_v 0) (s_int) rfl) (ss_cons (s_set (j := 3) c.nd (s_mkE E_BadNumber c (by decide) (by decide) (a_cons (s_v 1) (a_cons (s_v 2) (a_nil)))))
    (ss_one (s_ret (s_tup (a_cons (s_v 3) (a_cons (s_tup (a_cons (s_flE XA XN_what (s_v 3)) (a_cons (s_flE XA XN_number (s_v 3)) (a_nil)))) (a_nil))))))) (ss_nil))
    (ss_cons (s_ifS (t_cmp (y_eq c) (s_v 0) (s_int) rfl) (ss_cons (s_set (j := 3) c.nd (s_mkE E_NotKept c (by decide) (by decide) (a_cons (s_v 1) (a_cons (s_v 2) (a_nil)))))
    (ss_one (s_ret (s_tup (a_cons (s_v 3) (a_cons (s_tup (a_cons (s_flE XA XN_promise (s_v 3)) (a_cons (s_flE XA XN_witness (s_v 3)) (a_nil)))) (a_nil))))))) (ss_nil))
    (ss_one (s_ret (s_tup (a_cons (s_if (t_cmp (y_eq c) (s_v 0) (s_int) rfl) (s_mk0 E0_NothingToUndo (by decide)) (s_mk0 E0_NothingToRedo (by decide))) (a_cons (s_tup (a_nil)) (a_nil))))))))))))))))
abbrev s_u_law_draw : Stmt := top 19
def b_u_law_draw_4 : Sv := sRet (e2 oMod (e2 oDiv (eB bInt (aC (e2 oMod (e2 oPow (eV 4) (eC (.int 23))) (eC (.int 2305843009213693951))) (aN))) (eC (.int 128))) (eV 1))
def b_u_law_draw_3 : Sv := sSeq (sAsg (gN 4) (e2 oAdd (e2 oAdd (e2 oIx (eV 0) (eC (.str "fold"))) (e2 oMul (e2 oIx (eV 0) (eC (.str "count"))) (eC (.int 9311)))) (eC (.int 137))))
    (b_u_law_draw_4)
def b_u_law_draw_2 : Sv := sSeq (sIf (tB (e2 oGt (e2 oIx (eV 0) (eC (.str "digits"))) (eC (.int 0)))) (sSeq (sAsg (gN 3) (e2 oMod (eB bInt (aC (e2 oIx (eV 0) (eC (.str "digits"))) (aN))) (eV 1)))
    (sSeq (sStore (eV 0) (eC (.str "digits")) (e2 oDiv (e2 oIx (eV 0) (eC (.str "digits"))) (eV 1)))
    (sRet (eV 3)))) (sPass))
    (b_u_law_draw_3)
def b_u_law_draw_1 : Sv := sSeq (sIf (tAnd (tB (e2 oEq (e2 oIx (eV 0) (eC (.str "digits"))) (eC (.int 0)))) (tB (e2 oLt (e2 oIx (eV 0) (eC (.str "at"))) (eB bLen (aC (e2 oIx (eV 0) (eC (.str "cells"))) (aN)))))) (sSeq (sAsg (gN 2) (e2 oIx (e2 oIx (eV 0) (eC (.str "cells"))) (e2 oIx (eV 0) (eC (.str "at")))))
    (sSeq (sStore (eV 0) (eC (.str "at")) (e2 oAdd (e2 oIx (eV 0) (eC (.str "at"))) (eC (.int 1))))
    (sIf (tB (e2 oGe (eV 2) (e2 oPow (eC (.int 10)) (eC (.int 18))))) (sStore (eV 0) (eC (.str "digits")) (e2 oSub (eV 2) (e2 oPow (eC (.int 10)) (eC (.int 18))))) (sStore (eV 0) (eC (.str "fold")) (e2 oMod (eB bInt (aC (e2 oAdd (e2 oMul (e2 oIx (eV 0) (eC (.str "fold"))) (eC (.int 73327))) (eV 2)) (aN))) (eC (.int 2147483543))))))) (sPass))
    (b_u_law_draw_2)
def b_u_law_draw : Sv := sSeq (sStore (eV 0) (eC (.str "count")) (e2 oAdd (e2 oIx (eV 0) (eC (.str "count"))) (eC (.int 1))))
    (b_u_law_draw_1)
def d_u_law_draw : Fn := fnP 5 b_u_law_draw
theorem sc_u_law_draw : FnScope ["pen", "many", "cell", "digit", "blend"] ["pen", "many"] (defScope s_u_law_draw) := ⟨rfl, rfl, rfl, by decide +kernel, rfl, by decide +kernel, by decide +kernel⟩
theorem fn_u_law_draw (F : Fun K "_law_draw" "_law_draw" s_u_law_draw f fd) (z_len : mg "len" = none) (z_int : mg "int" = none)       :
    FnG P w K mg base 1 f fd ["pen", "many"] (spP K cl 2 d_u_law_draw) := by
  refine fn_P (N := ["pen", "many", "cell", "digit", "blend"]) F sc_u_law_draw ?_
  rintro ⟨prog, w2, K2, mg2, base2, A, N, s0, H0, ⟨sc, lo, gl, ce, qu, fu, co, fr, bl⟩, outer, stack, ex, fn, calm, pn, xe⟩ e1 e2 e3 e4 e5 e6 e7 e8 e9 e10 E c tk hp
  dsimp only at e1 e2 e3 e4 e5 e6 e7 e8 e9 e10
  subst e1 e2 e3 e4 e5 e6 e7 e8 e9 e10
  exact ss_cons (s_store c (s_v 0) (s_str) (s_op y_add (s_ix c (s_v 0) (s_str) (fun _ _ => rfl)) (s_int)))
    (ss_cons (s_ifS (t_w (w_and (t_cmp (y_eq c) (s_ix c (s_v 0) (s_str) (fun _ _ => rfl)) (s_int) rfl) (w_and1 (t_cmp (y_lt c) (s_ix c (s_v 0) (s_str) (fun _ _ => rfl)) (s_b c_len rfl z_len rfl (a_cons (s_ix c (s_v 0) (s_str) (fun _ _ => rfl)) (a_nil))) rfl)))) (ss_cons (s_set (j := 2) c.nd (s_ix c (s_ix c (s_v 0) (s_str) (fun _ _ => rfl)) (s_ix c (s_v 0) (s_str) (fun _ _ => rfl)) (fun _ _ => rfl)))
    (ss_cons (s_store c (s_v 0) (s_str) (s_op y_add (s_ix c (s_v 0) (s_str) (fun _ _ => rfl)) (s_int)))
    (ss_one (s_ifS (t_cmp y_ge (s_v 2) (s_op y_pow (s_int) (s_int)) rfl) (ss_one (s_store c (s_v 0) (s_str) (s_op y_sub (s_v 2) (s_op y_pow (s_int) (s_int))))) (ss_one (s_store c (s_v 0) (s_str) (s_op y_mod (s_bT c_int rfl z_int rfl (a_cons (s_op y_add (s_op y_mul (s_ix c (s_v 0) (s_str) (fun _ _ => rfl)) (s_int)) (s_v 2)) (a_nil))) (s_int)))))))) (ss_nil))
    (ss_cons (s_ifS (t_cmp y_gt (s_ix c (s_v 0) (s_str) (fun _ _ => rfl)) (s_int) rfl) (ss_cons (s_set (j := 3) c.nd (s_op y_mod (s_bT c_int rfl z_int rfl (a_cons (s_ix c (s_v 0) (s_str) (fun _ _ => rfl)) (a_nil))) (s_v 1)))
    (ss_cons (s_store c (s_v 0) (s_str) (s_op y_div (s_ix c (s_v 0) (s_str) (fun _ _ => rfl)) (s_v 1)))
    (ss_one (s_ret (s_v 3))))) (ss_nil))
    (ss_cons (s_set (j := 4) c.nd (s_op y_add (s_op y_add (s_ix c (s_v 0) (s_str) (fun _ _ => rfl)) (s_op y_mul (s_ix c (s_v 0) (s_str) (fun _ _ => rfl)) (s_int))) (s_int)))
    (ss_one (s_ret (s_op y_mod (s_op y_div (s_bT c_int rfl z_int rfl (a_cons (s_op y_mod (s_op y_pow (s_v 4) (s_int)) (s_int)) (a_nil))) (s_int)) (s_v 1)))))))
abbrev s_u_law_pick : Stmt := top 20
def b_u_law_pick : Sv := sRet (e2 oIx (eV 1) (eCall d_u_law_draw (aC (eV 0) (aC (eB bLen (aC (eV 1) (aN))) (aN)))))
def d_u_law_pick : Fn := fnP 2 b_u_law_pick
theorem sc_u_law_pick : FnScope ["pen", "some"] ["pen", "some"] (defScope s_u_law_pick) := ⟨rfl, rfl, rfl, by decide +kernel, rfl, by decide +kernel, by decide +kernel⟩
theorem fn_u_law_pick (F : Fun K "_law_pick" "_law_pick" s_u_law_pick f fd) (z_len : mg "len" = none)      (D_u_law_draw : Def P w K mg base 1 "_law_draw" ["pen", "many"] (spP K cl 2 d_u_law_draw)) :
    FnG P w K mg base 2 f fd ["pen", "some"] (spP K cl 2 d_u_law_pick) := by
  refine fn_P (N := ["pen", "some"]) F sc_u_law_pick ?_
  rintro ⟨prog, w2, K2, mg2, base2, A, N, s0, H0, ⟨sc, lo, gl, ce, qu, fu, co, fr, bl⟩, outer, stack, ex, fn, calm, pn, xe⟩ e1 e2 e3 e4 e5 e6 e7 e8 e9 e10 E c tk hp
  dsimp only at e1 e2 e3 e4 e5 e6 e7 e8 e9 e10
  subst e1 e2 e3 e4 e5 e6 e7 e8 e9 e10
  exact ss_one (s_ret (s_ix c (s_v 1) (q_call D_u_law_draw (by decide) c tk (a_cons (s_v 0) (a_cons (s_b c_len rfl z_len rfl (a_cons (s_v 1) (a_nil))) (a_nil))) (al_cons (al_cons (al_nil)))) (fun _ _ => rfl)))
abbrev s_u_law_which : Stmt := top 22
def b_u_law_which_3 : Sv := sRet (e2 oAdd (eV 1) (eFrz (lLst (aC (e1 (isE "NotKept") (eV 0)) (aC (e1 (isE "NothingToUndo") (eV 0)) (aC (e1 (isE "NothingToRedo") (eV 0)) (aN)))))))
def b_u_law_which_2 : Sv := sSeq (sAsg (gN 1) (e2 oAdd (eV 1) (eFrz (lLst (aC (e1 (isE "BadRoot") (eV 0)) (aC (e1 (isE "BadPaper") (eV 0)) (aC (e1 (isE "BadText") (eV 0)) (aC (e1 (isE "BadNumber") (eV 0)) (aN)))))))))
    (b_u_law_which_3)
def b_u_law_which_1 : Sv := sSeq (sAsg (gN 1) (e2 oAdd (eV 1) (eFrz (lLst (aC (e1 (isE "BadTable") (eV 0)) (aC (e1 (isE "BadRow") (eV 0)) (aC (e1 (isE "BadRows") (eV 0)) (aC (e1 (isE "BadSystem") (eV 0)) (aN)))))))))
    (b_u_law_which_2)
def b_u_law_which : Sv := sSeq (sAsg (gN 1) (eFrz (lLst (aC (e1 (isE "BadName") (eV 0)) (aC (e1 (isE "NoName") (eV 0)) (aC (e1 (isE "TakenName") (eV 0)) (aC (e1 (isE "BadWeb") (eV 0)) (aN))))))))
    (b_u_law_which_1)
def d_u_law_which : Fn := fnP 2 b_u_law_which
theorem sc_u_law_which : FnScope ["e", "found"] ["e"] (defScope s_u_law_which) := ⟨rfl, rfl, rfl, by decide +kernel, rfl, by decide +kernel, by decide +kernel⟩
theorem fn_u_law_which (F : Fun K "_law_which" "_law_which" s_u_law_which f fd) (z_isinstance : mg "isinstance" = none)     (XA : ExcA K)  (XI_BadWeb : ExcI K mg "BadWeb")  (XI_TakenName : ExcI K mg "TakenName")  (XI_NoName : ExcI K mg "NoName")  (XI_BadName : ExcI K mg "BadName")  (XI_BadSystem : ExcI K mg "BadSystem")  (XI_BadRows : ExcI K mg "BadRows")  (XI_BadRow : ExcI K mg "BadRow")  (XI_BadTable : ExcI K mg "BadTable")  (XI_BadNumber : ExcI K mg "BadNumber")  (XI_BadText : ExcI K mg "BadText")  (XI_BadPaper : ExcI K mg "BadPaper")  (XI_BadRoot : ExcI K mg "BadRoot")  (XI_NothingToRedo : ExcI K mg "NothingToRedo")  (XI_NothingToUndo : ExcI K mg "NothingToUndo")  (XI_NotKept : ExcI K mg "NotKept")   :
    FnG P w K mg base 1 f fd ["e"] (spP K cl 1 d_u_law_which) := by
  refine fn_P (N := ["e", "found"]) F sc_u_law_which ?_
  rintro ⟨prog, w2, K2, mg2, base2, A, N, s0, H0, ⟨sc, lo, gl, ce, qu, fu, co, fr, bl⟩, outer, stack, ex, fn, calm, pn, xe⟩ e1 e2 e3 e4 e5 e6 e7 e8 e9 e10 E c tk hp
  dsimp only at e1 e2 e3 e4 e5 e6 e7 e8 e9 e10
  subst e1 e2 e3 e4 e5 e6 e7 e8 e9 e10
  exact ss_cons (s_set (j := 1) c.nd (s_frz (l_lst (a_cons (s_isE XA XI_BadName (s_v 0) z_isinstance) (a_cons (s_isE XA XI_NoName (s_v 0) z_isinstance) (a_cons (s_isE XA XI_TakenName (s_v 0) z_isinstance) (a_cons (s_isE XA XI_BadWeb (s_v 0) z_isinstance) (a_nil))))))))
    (ss_cons (s_set (j := 1) c.nd (s_op y_add (s_v 1) (s_frz (l_lst (a_cons (s_isE XA XI_BadTable (s_v 0) z_isinstance) (a_cons (s_isE XA XI_BadRow (s_v 0) z_isinstance) (a_cons (s_isE XA XI_BadRows (s_v 0) z_isinstance) (a_cons (s_isE XA XI_BadSystem (s_v 0) z_isinstance) (a_nil)))))))))
    (ss_cons (s_set (j := 1) c.nd (s_op y_add (s_v 1) (s_frz (l_lst (a_cons (s_isE XA XI_BadRoot (s_v 0) z_isinstance) (a_cons (s_isE XA XI_BadPaper (s_v 0) z_isinstance) (a_cons (s_isE XA XI_BadText (s_v 0) z_isinstance) (a_cons (s_isE XA XI_BadNumber (s_v 0) z_isinstance) (a_nil)))))))))
    (ss_one (s_ret (s_op y_add (s_v 1) (s_frz (l_lst (a_cons (s_isE XA XI_NotKept (s_v 0) z_isinstance) (a_cons (s_isE XA XI_NothingToUndo (s_v 0) z_isinstance) (a_cons (s_isE XA XI_NothingToRedo (s_v 0) z_isinstance) (a_nil)))))))))))
abbrev s_law : Stmt := top 23
def b_law_l1_5 : Sv := sIf (tB (e2 oNe (eCall d_u_law_which (aC (eV 7) (aN))) (eFrz (lComp (iR1 (aC (eC (.int 15)) (aN))) (gN 10) (tYes) (e2 oEq (eV 10) (eV 3)) [10])))) (sRet (eC (.bl false))) (sPass)
def b_law_l1_4 : Sv := sSeq (sIf (tOr (tNot (tT (e1 (isE "LineError") (eV 7)))) (tNot (tT (e1 (isE "ValueError") (eV 7))))) (sRet (eC (.bl false))) (sPass))
    (b_law_l1_5)
def b_law_l1_3 : Sv := sSeq (sIf (tB (e2 oNe (eB bRepr (aC (eV 8) (aN))) (e2 oIx (eV 6) (eB bLen (aC (eV 8) (aN)))))) (sRet (eC (.bl false))) (sPass))
    (b_law_l1_4)
def b_law_l1_2 : Sv := sSeq (sAsg (gT [gN 7, gN 8]) (eCall d_u_law_one (aC (eV 3) (aC (eV 4) (aC (eV 5) (aN))))))
    (b_law_l1_3)
def b_law_l1_1 : Sv := sSeq (sAsg (gN 6) (eFrz (lComp (iR1 (aC (eC (.int 3)) (aN))) (gN 9) (tYes) (eB bRepr (aC (eSl (eTup (aC (eV 4) (aC (eV 5) (aN)))) (oN) (oS (eV 9))) (aN))) [9])))
    (b_law_l1_2)
def b_law_l1 : Sv := sSeq (sAsg (gT [gN 4, gN 5]) (eTup (aC (eCall d_u_law_pick (aC (eV 1) (aC (eV 2) (aN)))) (aC (eCall d_u_law_pick (aC (eV 1) (aC (eV 2) (aN)))) (aN)))))
    (b_law_l1_1)
def b_law_4 : Sv := sRet (eC (.bl true))
def b_law_3 : Sv := sSeq (sFor (iR1 (aC (eC (.int 15)) (aN))) (gN 3) (b_law_l1))
    (b_law_4)
def b_law_2 : Sv := sSeq (sApp (eV 2) (eTup (aC (eTup (aC (eC (.int 0)) (aC (eC (.int 0)) (aN)))) (aN))))
    (b_law_3)
def b_law_1 : Sv := sSeq (sAsg (gN 2) (eMut (lLst (aC (eC .non) (aC (eC (.bl true)) (aC (eC (.int 0)) (aC (e2 oSub (e1 uNeg (eC (.int 1))) (eCall d_u_law_draw (aC (eV 1) (aC (eC (.int 9)) (aN))))) (aC (e2 oAdd (e2 oPow (eC (.int 10)) (eC (.int 40))) (eCall d_u_law_draw (aC (eV 1) (aC (eC (.int 99)) (aN))))) (aC (eC (.str "")) (aC (eC (.str "log")) (aC (eTup (aC (eC (.int 1)) (aC (eC (.int 2)) (aN)))) (aC (eFrz (lLst (aC (eC (.int 3)) (aN)))) (aC (eTup (aC (eC (.str "b")) (aC (eC (.str "c")) (aN)))) (aN))))))))))))))
    (b_law_2)
def b_law : Sv := sSeq (sAsg (gN 1) (eCall d_u_law_pen (aC (eV 0) (aN))))
    (b_law_1)
def d_law : Fn := fnP 11 b_law
theorem sc_law : FnScope ["script", "pen", "menu", "kind", "a", "b", "dues", "e", "fields", "many", "k"] ["script"] (defScope s_law) := ⟨rfl, rfl, rfl, by decide +kernel, rfl, by decide +kernel, by decide +kernel⟩
theorem fn_law (F : Fun K "law" "law" s_law f fd) (z_range : mg "range" = none) (z_repr : mg "repr" = none) (z_len : mg "len" = none) (z_isinstance : mg "isinstance" = none) (z_ValueError : mg "ValueError" = none)     (XA : ExcA K)  (XV : ExcV K)  (XI_LineError : ExcI K mg "LineError")  (D_u_law_pen : Def P w K mg base 1 "_law_pen" ["script"] (spP K cl 1 d_u_law_pen)) (D_u_law_draw : Def P w K mg base 1 "_law_draw" ["pen", "many"] (spP K cl 2 d_u_law_draw)) (D_u_law_pick : Def P w K mg base 2 "_law_pick" ["pen", "some"] (spP K cl 2 d_u_law_pick)) (D_u_law_one : Def P w K mg base 3 "_law_one" ["kind", "a", "b"] (spP K cl 3 d_u_law_one)) (D_u_law_which : Def P w K mg base 1 "_law_which" ["e"] (spP K cl 1 d_u_law_which)) :
    FnG P w K mg base 4 f fd ["script"] (spP K cl 1 d_law) := by
  refine fn_P (N := ["script", "pen", "menu", "kind", "a", "b", "dues", "e", "fields", "many", "k"]) F sc_law ?_
  rintro ⟨prog, w2, K2, mg2, base2, A, N, s0, H0, ⟨sc, lo, gl, ce, qu, fu, co, fr, bl⟩, outer, stack, ex, fn, calm, pn, xe⟩ e1 e2 e3 e4 e5 e6 e7 e8 e9 e10 E c tk hp
  dsimp only at e1 e2 e3 e4 e5 e6 e7 e8 e9 e10
  subst e1 e2 e3 e4 e5 e6 e7 e8 e9 e10
  exact ss_cons (s_set (j := 1) c.nd (q_call D_u_law_pen (by decide) c tk (a_cons (s_v 0) (a_nil)) (al_cons (al_nil))))
    (ss_cons (s_set (j := 2) c.nd (s_mut (l_lst (a_cons (s_non) (a_cons (s_bl) (a_cons (s_int) (a_cons (s_op y_sub (s_neg (s_int)) (q_call D_u_law_draw (by decide) c tk (a_cons (s_v 1) (a_cons (s_int) (a_nil))) (al_cons (al_cons (al_nil))))) (a_cons (s_op y_add (s_op y_pow (s_int) (s_int)) (q_call D_u_law_draw (by decide) c tk (a_cons (s_v 1) (a_cons (s_int) (a_nil))) (al_cons (al_cons (al_nil))))) (a_cons (s_str) (a_cons (s_str) (a_cons (s_tup (a_cons (s_int) (a_cons (s_int) (a_nil)))) (a_cons (s_frz (l_lst (a_cons (s_int) (a_nil)))) (a_cons (s_tup (a_cons (s_str) (a_cons (s_str) (a_nil)))) (a_nil))))))))))))))
    (ss_cons (s_app (s_v 2) (s_tup (a_cons (s_tup (a_cons (s_int) (a_cons (s_int) (a_nil)))) (a_nil))) (fun h1 h2 => pe_bm PySem.F.plainAttrs_list PySem.F.slot_list_append PySem.F.type_list_append mt_append h1 h2))
    (ss_cons (s_for hp c.calm (i_r1 rfl z_range (a_cons (s_int) (a_nil))) (g_n 3 c.nd) (ss_cons (s_asg (s_tup (a_cons (q_call D_u_law_pick (by decide) c tk (a_cons (s_v 1) (a_cons (s_v 2) (a_nil))) (al_cons (al_cons (al_nil)))) (a_cons (q_call D_u_law_pick (by decide) c tk (a_cons (s_v 1) (a_cons (s_v 2) (a_nil))) (al_cons (al_cons (al_nil)))) (a_nil)))) (g_tup c.calm (gs_cons (g_n 4 c.nd) (gs_cons (g_n 5 c.nd) (gs_nil)))))
    (ss_cons (s_setComp (i := 6) c rfl rfl rfl (i_r1 rfl z_range (a_cons (s_int) (a_nil))) (own := [("many", 9)]) (blkOk_by rfl) (by decide) (fun s H C cc fp => g_n 9 (c.blk).nd) (fun s H C cc fp => ts_nil) (fun s H C cc fp => s_b (c_repr (c.blk)) rfl z_repr rfl (a_cons (s_sl (s_tup (a_cons (s_v 4) (a_cons (s_v 5) (a_nil)))) (o_none) (o_some (s_v 9))) (a_nil))))
    (ss_cons (s_asg (q_call D_u_law_one (by decide) c tk (a_cons (s_v 3) (a_cons (s_v 4) (a_cons (s_v 5) (a_nil)))) (al_cons (al_cons (al_cons (al_nil))))) (g_tup c.calm (gs_cons (g_n 7 c.nd) (gs_cons (g_n 8 c.nd) (gs_nil)))))
    (ss_cons (s_ifS (t_cmp (y_ne c) (s_b (c_repr c) rfl z_repr rfl (a_cons (s_v 8) (a_nil))) (s_ix c (s_v 6) (s_b c_len rfl z_len rfl (a_cons (s_v 8) (a_nil))) (fun _ _ => rfl)) rfl) (ss_one (s_ret (s_bl))) (ss_nil))
    (ss_cons (s_ifS (t_w (w_or (t_not (t_tr (s_isE XA XI_LineError (s_v 7) z_isinstance))) (w_or1 (t_not (t_tr (s_isV XA XV z_ValueError (s_v 7) z_isinstance)))))) (ss_one (s_ret (s_bl))) (ss_nil))
    (ss_one (s_ifS (t_cmp (y_ne c) (q_call D_u_law_which (by decide) c tk (a_cons (s_v 7) (a_nil)) (al_cons (al_nil))) (s_frz (l_comp c (i_r1 rfl z_range (a_cons (s_int) (a_nil))) (own := [("k", 10)]) (blkOk_by rfl) (by decide) (fun s H C cc fp => g_n 10 (c.blk).nd) (fun s H C cc fp => ts_nil) (fun s H C cc fp => s_cmp (y_eq (c.blk)) (s_v 10) (s_v 3) rfl))) rfl) (ss_one (s_ret (s_bl))) (ss_nil)))))))))
    (ss_one (s_ret (s_bl))))))
end
end K00
end

section
set_option Elab.async false
set_option linter.all false
set_option maxRecDepth 100000
namespace K00
open PySem PySem.Spec PyProof.Rows L2 Y
abbrev s_E_BadText : Stmt := (clsB (top 2)).getD 0 (.Pass ⟨0, 0, 0, 0⟩)
theorem sc_E_BadText : FnScope ["self", "line", "column"] ["self", "line", "column"] (defScope s_E_BadText) := ⟨rfl, rfl, rfl, by decide +kernel, rfl, by decide +kernel, by decide +kernel⟩
abbrev s_E_BadNumber : Stmt := (clsB (top 3)).getD 0 (.Pass ⟨0, 0, 0, 0⟩)
theorem sc_E_BadNumber : FnScope ["self", "what", "number"] ["self", "what", "number"] (defScope s_E_BadNumber) := ⟨rfl, rfl, rfl, by decide +kernel, rfl, by decide +kernel, by decide +kernel⟩
abbrev s_E_BadName : Stmt := (clsB (top 4)).getD 0 (.Pass ⟨0, 0, 0, 0⟩)
theorem sc_E_BadName : FnScope ["self", "name"] ["self", "name"] (defScope s_E_BadName) := ⟨rfl, rfl, rfl, by decide +kernel, rfl, by decide +kernel, by decide +kernel⟩
abbrev s_E_NoName : Stmt := (clsB (top 5)).getD 0 (.Pass ⟨0, 0, 0, 0⟩)
theorem sc_E_NoName : FnScope ["self", "name"] ["self", "name"] (defScope s_E_NoName) := ⟨rfl, rfl, rfl, by decide +kernel, rfl, by decide +kernel, by decide +kernel⟩
abbrev s_E_TakenName : Stmt := (clsB (top 6)).getD 0 (.Pass ⟨0, 0, 0, 0⟩)
theorem sc_E_TakenName : FnScope ["self", "name"] ["self", "name"] (defScope s_E_TakenName) := ⟨rfl, rfl, rfl, by decide +kernel, rfl, by decide +kernel, by decide +kernel⟩
abbrev s_E_BadWeb : Stmt := (clsB (top 7)).getD 0 (.Pass ⟨0, 0, 0, 0⟩)
theorem sc_E_BadWeb : FnScope ["self", "web"] ["self", "web"] (defScope s_E_BadWeb) := ⟨rfl, rfl, rfl, by decide +kernel, rfl, by decide +kernel, by decide +kernel⟩
abbrev s_E_BadTable : Stmt := (clsB (top 8)).getD 0 (.Pass ⟨0, 0, 0, 0⟩)
theorem sc_E_BadTable : FnScope ["self", "table"] ["self", "table"] (defScope s_E_BadTable) := ⟨rfl, rfl, rfl, by decide +kernel, rfl, by decide +kernel, by decide +kernel⟩
abbrev s_E_BadRow : Stmt := (clsB (top 9)).getD 0 (.Pass ⟨0, 0, 0, 0⟩)
theorem sc_E_BadRow : FnScope ["self", "row"] ["self", "row"] (defScope s_E_BadRow) := ⟨rfl, rfl, rfl, by decide +kernel, rfl, by decide +kernel, by decide +kernel⟩
abbrev s_E_BadRows : Stmt := (clsB (top 10)).getD 0 (.Pass ⟨0, 0, 0, 0⟩)
theorem sc_E_BadRows : FnScope ["self", "rows"] ["self", "rows"] (defScope s_E_BadRows) := ⟨rfl, rfl, rfl, by decide +kernel, rfl, by decide +kernel, by decide +kernel⟩
abbrev s_E_BadSystem : Stmt := (clsB (top 11)).getD 0 (.Pass ⟨0, 0, 0, 0⟩)
theorem sc_E_BadSystem : FnScope ["self", "system"] ["self", "system"] (defScope s_E_BadSystem) := ⟨rfl, rfl, rfl, by decide +kernel, rfl, by decide +kernel, by decide +kernel⟩
abbrev s_E_BadRoot : Stmt := (clsB (top 12)).getD 0 (.Pass ⟨0, 0, 0, 0⟩)
theorem sc_E_BadRoot : FnScope ["self", "root"] ["self", "root"] (defScope s_E_BadRoot) := ⟨rfl, rfl, rfl, by decide +kernel, rfl, by decide +kernel, by decide +kernel⟩
abbrev s_E_BadPaper : Stmt := (clsB (top 13)).getD 0 (.Pass ⟨0, 0, 0, 0⟩)
theorem sc_E_BadPaper : FnScope ["self", "paper"] ["self", "paper"] (defScope s_E_BadPaper) := ⟨rfl, rfl, rfl, by decide +kernel, rfl, by decide +kernel, by decide +kernel⟩
abbrev s_E_NotKept : Stmt := (clsB (top 14)).getD 0 (.Pass ⟨0, 0, 0, 0⟩)
theorem sc_E_NotKept : FnScope ["self", "promise", "witness"] ["self", "promise", "witness"] (defScope s_E_NotKept) := ⟨rfl, rfl, rfl, by decide +kernel, rfl, by decide +kernel, by decide +kernel⟩
set_option maxHeartbeats 0 in
theorem all_mk {P : Program} {w : World} {K : PySem.W.Frag} {h : Heap} {mg : Str → Option Value} (X : K.In h) (G : h.Ns mainGlobals mg)
    {fa : Addr}
    {C_LineError : Addr}
    (n_LineError : PySem.W.nsIn K mainGlobals "LineError" = some (some (.ref C_LineError)))
    {C_BadText : Addr}
    (n_BadText : PySem.W.nsIn K mainGlobals "BadText" = some (some (.ref C_BadText)))
    {C_BadNumber : Addr}
    (n_BadNumber : PySem.W.nsIn K mainGlobals "BadNumber" = some (some (.ref C_BadNumber)))
    {C_BadName : Addr}
    (n_BadName : PySem.W.nsIn K mainGlobals "BadName" = some (some (.ref C_BadName)))
    {C_NoName : Addr}
    (n_NoName : PySem.W.nsIn K mainGlobals "NoName" = some (some (.ref C_NoName)))
    {C_TakenName : Addr}
    (n_TakenName : PySem.W.nsIn K mainGlobals "TakenName" = some (some (.ref C_TakenName)))
    {C_BadWeb : Addr}
    (n_BadWeb : PySem.W.nsIn K mainGlobals "BadWeb" = some (some (.ref C_BadWeb)))
    {C_BadTable : Addr}
    (n_BadTable : PySem.W.nsIn K mainGlobals "BadTable" = some (some (.ref C_BadTable)))
    {C_BadRow : Addr}
    (n_BadRow : PySem.W.nsIn K mainGlobals "BadRow" = some (some (.ref C_BadRow)))
    {C_BadRows : Addr}
    (n_BadRows : PySem.W.nsIn K mainGlobals "BadRows" = some (some (.ref C_BadRows)))
    {C_BadSystem : Addr}
    (n_BadSystem : PySem.W.nsIn K mainGlobals "BadSystem" = some (some (.ref C_BadSystem)))
    {C_BadRoot : Addr}
    (n_BadRoot : PySem.W.nsIn K mainGlobals "BadRoot" = some (some (.ref C_BadRoot)))
    {C_BadPaper : Addr}
    (n_BadPaper : PySem.W.nsIn K mainGlobals "BadPaper" = some (some (.ref C_BadPaper)))
    {C_NotKept : Addr}
    (n_NotKept : PySem.W.nsIn K mainGlobals "NotKept" = some (some (.ref C_NotKept)))
    {C_NothingToUndo : Addr}
    (n_NothingToUndo : PySem.W.nsIn K mainGlobals "NothingToUndo" = some (some (.ref C_NothingToUndo)))
    {C_NothingToRedo : Addr}
    (n_NothingToRedo : PySem.W.nsIn K mainGlobals "NothingToRedo" = some (some (.ref C_NothingToRedo)))
    (ic_LineError : PySem.W.isClsIn K C_LineError = true)
    (tC_LineError : PySem.W.typeIn K (.ref C_LineError) = some (.type "type"))
    (eC_BadText : PySem.W.subIn K (.ref C_BadText) (.type "BaseException") = some true)
    (tC_BadText : PySem.W.typeIn K (.ref C_BadText) = some (.type "type"))
    {nm_BadText qn_BadText : Str} {N_BadText : _} {bs_BadText : _} {sn_BadText : _} {sb_BadText : _} {ab_BadText : _} {co_BadText : _} {dd_BadText : _} {m0_BadText m1_BadText m2_BadText m3_BadText m5_BadText : _}
    (x_BadText : K.lookup C_BadText = some (excClassObj nm_BadText qn_BadText C_BadText N_BadText bs_BadText [.ref C_LineError, .type "ValueError", .type "Exception", .type "BaseException", .type "object"] true sn_BadText sb_BadText ab_BadText co_BadText dd_BadText m0_BadText m1_BadText m2_BadText m3_BadText m5_BadText "ValueError.__new__"))
    (sa_BadText : PySem.W.findIn K (.ref C_BadText) "__setattr__" = some (some (.builtin "object.__setattr__")))
    (kC_BadText : PySem.W.keepIn K (.ref C_BadText) = true)
    {f6 : Addr}
    (i_BadText : PySem.W.findIn K (.ref C_BadText) "__init__" = some (some (.ref f6)))
    (ti_BadText : PySem.W.typeIn K (.ref f6) = some (.type "function"))
    {od6 an6 : Option Addr} {sl6 : Array (Option Value)} {oc6 kV6 dc6 pm6 cd6 ct6 : Value}
    (l6 : K.lookup f6 = some ⟨oc6, od6, .func (PySem.W.fnOf "__init__" "BadText.__init__" (defArgs s_E_BadText) (defBody s_E_BadText) (defScope s_E_BadText) .none kV6 dc6 pm6 an6 cd6 ct6), sl6⟩)
    (c6 : PySem.W.codeIn K cd6 "BadText.__init__" = true)
    (k6 : PySem.W.keepIn K (.ref f6) = true)
    (ga_BadText : PySem.W.findIn K (.ref C_BadText) "__getattribute__" = some (some (.builtin "BaseException.__getattribute__")))
    (gg_BadText : PySem.W.findIn K (.ref C_BadText) "__getattr__" = some none)
    (hd_BadText : PySem.W.hasDictIn K C_BadText = true)
    (hc_BadText : PySem.W.findIn K (.ref C_BadText) "__class__" = some (some (.builtin "object.__class__")))
    (mc_BadText : PySem.W.mroIn K C_BadText (.type "object") = some true)
    (vx_BadText : PySem.W.subIn K (.ref C_BadText) (.type "ValueError") = some true)
    (ic_BadText : PySem.W.isClsIn K C_BadText = true)
    (no_BadText_line : PySem.W.findIn K (.ref C_BadText) "line" = some none)
    (no_BadText_column : PySem.W.findIn K (.ref C_BadText) "column" = some none)
    (eC_BadNumber : PySem.W.subIn K (.ref C_BadNumber) (.type "BaseException") = some true)
    (tC_BadNumber : PySem.W.typeIn K (.ref C_BadNumber) = some (.type "type"))
    {nm_BadNumber qn_BadNumber : Str} {N_BadNumber : _} {bs_BadNumber : _} {sn_BadNumber : _} {sb_BadNumber : _} {ab_BadNumber : _} {co_BadNumber : _} {dd_BadNumber : _} {m0_BadNumber m1_BadNumber m2_BadNumber m3_BadNumber m5_BadNumber : _}
    (x_BadNumber : K.lookup C_BadNumber = some (excClassObj nm_BadNumber qn_BadNumber C_BadNumber N_BadNumber bs_BadNumber [.ref C_LineError, .type "ValueError", .type "Exception", .type "BaseException", .type "object"] true sn_BadNumber sb_BadNumber ab_BadNumber co_BadNumber dd_BadNumber m0_BadNumber m1_BadNumber m2_BadNumber m3_BadNumber m5_BadNumber "ValueError.__new__"))
    (sa_BadNumber : PySem.W.findIn K (.ref C_BadNumber) "__setattr__" = some (some (.builtin "object.__setattr__")))
    (kC_BadNumber : PySem.W.keepIn K (.ref C_BadNumber) = true)
    {f7 : Addr}
    (i_BadNumber : PySem.W.findIn K (.ref C_BadNumber) "__init__" = some (some (.ref f7)))
    (ti_BadNumber : PySem.W.typeIn K (.ref f7) = some (.type "function"))
    {od7 an7 : Option Addr} {sl7 : Array (Option Value)} {oc7 kV7 dc7 pm7 cd7 ct7 : Value}
    (l7 : K.lookup f7 = some ⟨oc7, od7, .func (PySem.W.fnOf "__init__" "BadNumber.__init__" (defArgs s_E_BadNumber) (defBody s_E_BadNumber) (defScope s_E_BadNumber) .none kV7 dc7 pm7 an7 cd7 ct7), sl7⟩)
    (c7 : PySem.W.codeIn K cd7 "BadNumber.__init__" = true)
    (k7 : PySem.W.keepIn K (.ref f7) = true)
    (ga_BadNumber : PySem.W.findIn K (.ref C_BadNumber) "__getattribute__" = some (some (.builtin "BaseException.__getattribute__")))
    (gg_BadNumber : PySem.W.findIn K (.ref C_BadNumber) "__getattr__" = some none)
    (hd_BadNumber : PySem.W.hasDictIn K C_BadNumber = true)
    (hc_BadNumber : PySem.W.findIn K (.ref C_BadNumber) "__class__" = some (some (.builtin "object.__class__")))
    (mc_BadNumber : PySem.W.mroIn K C_BadNumber (.type "object") = some true)
    (vx_BadNumber : PySem.W.subIn K (.ref C_BadNumber) (.type "ValueError") = some true)
    (ic_BadNumber : PySem.W.isClsIn K C_BadNumber = true)
    (no_BadNumber_what : PySem.W.findIn K (.ref C_BadNumber) "what" = some none)
    (no_BadNumber_number : PySem.W.findIn K (.ref C_BadNumber) "number" = some none)
    (eC_BadName : PySem.W.subIn K (.ref C_BadName) (.type "BaseException") = some true)
    (tC_BadName : PySem.W.typeIn K (.ref C_BadName) = some (.type "type"))
    {nm_BadName qn_BadName : Str} {N_BadName : _} {bs_BadName : _} {sn_BadName : _} {sb_BadName : _} {ab_BadName : _} {co_BadName : _} {dd_BadName : _} {m0_BadName m1_BadName m2_BadName m3_BadName m5_BadName : _}
    (x_BadName : K.lookup C_BadName = some (excClassObj nm_BadName qn_BadName C_BadName N_BadName bs_BadName [.ref C_LineError, .type "ValueError", .type "Exception", .type "BaseException", .type "object"] true sn_BadName sb_BadName ab_BadName co_BadName dd_BadName m0_BadName m1_BadName m2_BadName m3_BadName m5_BadName "ValueError.__new__"))
    (sa_BadName : PySem.W.findIn K (.ref C_BadName) "__setattr__" = some (some (.builtin "object.__setattr__")))
    (kC_BadName : PySem.W.keepIn K (.ref C_BadName) = true)
    {f8 : Addr}
    (i_BadName : PySem.W.findIn K (.ref C_BadName) "__init__" = some (some (.ref f8)))
    (ti_BadName : PySem.W.typeIn K (.ref f8) = some (.type "function"))
    {od8 an8 : Option Addr} {sl8 : Array (Option Value)} {oc8 kV8 dc8 pm8 cd8 ct8 : Value}
    (l8 : K.lookup f8 = some ⟨oc8, od8, .func (PySem.W.fnOf "__init__" "BadName.__init__" (defArgs s_E_BadName) (defBody s_E_BadName) (defScope s_E_BadName) .none kV8 dc8 pm8 an8 cd8 ct8), sl8⟩)
    (c8 : PySem.W.codeIn K cd8 "BadName.__init__" = true)
    (k8 : PySem.W.keepIn K (.ref f8) = true)
    (ga_BadName : PySem.W.findIn K (.ref C_BadName) "__getattribute__" = some (some (.builtin "BaseException.__getattribute__")))
    (gg_BadName : PySem.W.findIn K (.ref C_BadName) "__getattr__" = some none)
    (hd_BadName : PySem.W.hasDictIn K C_BadName = true)
    (hc_BadName : PySem.W.findIn K (.ref C_BadName) "__class__" = some (some (.builtin "object.__class__")))
    (mc_BadName : PySem.W.mroIn K C_BadName (.type "object") = some true)
    (vx_BadName : PySem.W.subIn K (.ref C_BadName) (.type "ValueError") = some true)
    (ic_BadName : PySem.W.isClsIn K C_BadName = true)
    (no_BadName_name : PySem.W.findIn K (.ref C_BadName) "name" = some none)
    (eC_NoName : PySem.W.subIn K (.ref C_NoName) (.type "BaseException") = some true)
    (tC_NoName : PySem.W.typeIn K (.ref C_NoName) = some (.type "type"))
    {nm_NoName qn_NoName : Str} {N_NoName : _} {bs_NoName : _} {sn_NoName : _} {sb_NoName : _} {ab_NoName : _} {co_NoName : _} {dd_NoName : _} {m0_NoName m1_NoName m2_NoName m3_NoName m5_NoName : _}
    (x_NoName : K.lookup C_NoName = some (excClassObj nm_NoName qn_NoName C_NoName N_NoName bs_NoName [.ref C_LineError, .type "ValueError", .type "Exception", .type "BaseException", .type "object"] true sn_NoName sb_NoName ab_NoName co_NoName dd_NoName m0_NoName m1_NoName m2_NoName m3_NoName m5_NoName "ValueError.__new__"))
    (sa_NoName : PySem.W.findIn K (.ref C_NoName) "__setattr__" = some (some (.builtin "object.__setattr__")))
    (kC_NoName : PySem.W.keepIn K (.ref C_NoName) = true)
    {f9 : Addr}
    (i_NoName : PySem.W.findIn K (.ref C_NoName) "__init__" = some (some (.ref f9)))
    (ti_NoName : PySem.W.typeIn K (.ref f9) = some (.type "function"))
    {od9 an9 : Option Addr} {sl9 : Array (Option Value)} {oc9 kV9 dc9 pm9 cd9 ct9 : Value}
    (l9 : K.lookup f9 = some ⟨oc9, od9, .func (PySem.W.fnOf "__init__" "NoName.__init__" (defArgs s_E_NoName) (defBody s_E_NoName) (defScope s_E_NoName) .none kV9 dc9 pm9 an9 cd9 ct9), sl9⟩)
    (c9 : PySem.W.codeIn K cd9 "NoName.__init__" = true)
    (k9 : PySem.W.keepIn K (.ref f9) = true)
    (ga_NoName : PySem.W.findIn K (.ref C_NoName) "__getattribute__" = some (some (.builtin "BaseException.__getattribute__")))
    (gg_NoName : PySem.W.findIn K (.ref C_NoName) "__getattr__" = some none)
    (hd_NoName : PySem.W.hasDictIn K C_NoName = true)
    (hc_NoName : PySem.W.findIn K (.ref C_NoName) "__class__" = some (some (.builtin "object.__class__")))
    (mc_NoName : PySem.W.mroIn K C_NoName (.type "object") = some true)
    (vx_NoName : PySem.W.subIn K (.ref C_NoName) (.type "ValueError") = some true)
    (ic_NoName : PySem.W.isClsIn K C_NoName = true)
    (no_NoName_name : PySem.W.findIn K (.ref C_NoName) "name" = some none)
    (eC_TakenName : PySem.W.subIn K (.ref C_TakenName) (.type "BaseException") = some true)
    (tC_TakenName : PySem.W.typeIn K (.ref C_TakenName) = some (.type "type"))
    {nm_TakenName qn_TakenName : Str} {N_TakenName : _} {bs_TakenName : _} {sn_TakenName : _} {sb_TakenName : _} {ab_TakenName : _} {co_TakenName : _} {dd_TakenName : _} {m0_TakenName m1_TakenName m2_TakenName m3_TakenName m5_TakenName : _}
    (x_TakenName : K.lookup C_TakenName = some (excClassObj nm_TakenName qn_TakenName C_TakenName N_TakenName bs_TakenName [.ref C_LineError, .type "ValueError", .type "Exception", .type "BaseException", .type "object"] true sn_TakenName sb_TakenName ab_TakenName co_TakenName dd_TakenName m0_TakenName m1_TakenName m2_TakenName m3_TakenName m5_TakenName "ValueError.__new__"))
    (sa_TakenName : PySem.W.findIn K (.ref C_TakenName) "__setattr__" = some (some (.builtin "object.__setattr__")))
    (kC_TakenName : PySem.W.keepIn K (.ref C_TakenName) = true)
    {f10 : Addr}
    (i_TakenName : PySem.W.findIn K (.ref C_TakenName) "__init__" = some (some (.ref f10)))
    (ti_TakenName : PySem.W.typeIn K (.ref f10) = some (.type "function"))
    {od10 an10 : Option Addr} {sl10 : Array (Option Value)} {oc10 kV10 dc10 pm10 cd10 ct10 : Value}
    (l10 : K.lookup f10 = some ⟨oc10, od10, .func (PySem.W.fnOf "__init__" "TakenName.__init__" (defArgs s_E_TakenName) (defBody s_E_TakenName) (defScope s_E_TakenName) .none kV10 dc10 pm10 an10 cd10 ct10), sl10⟩)
    (c10 : PySem.W.codeIn K cd10 "TakenName.__init__" = true)
    (k10 : PySem.W.keepIn K (.ref f10) = true)
    (ga_TakenName : PySem.W.findIn K (.ref C_TakenName) "__getattribute__" = some (some (.builtin "BaseException.__getattribute__")))
    (gg_TakenName : PySem.W.findIn K (.ref C_TakenName) "__getattr__" = some none)
    (hd_TakenName : PySem.W.hasDictIn K C_TakenName = true)
    (hc_TakenName : PySem.W.findIn K (.ref C_TakenName) "__class__" = some (some (.builtin "object.__class__")))
    (mc_TakenName : PySem.W.mroIn K C_TakenName (.type "object") = some true)
    (vx_TakenName : PySem.W.subIn K (.ref C_TakenName) (.type "ValueError") = some true)
    (ic_TakenName : PySem.W.isClsIn K C_TakenName = true)
    (no_TakenName_name : PySem.W.findIn K (.ref C_TakenName) "name" = some none)
    (eC_BadWeb : PySem.W.subIn K (.ref C_BadWeb) (.type "BaseException") = some true)
    (tC_BadWeb : PySem.W.typeIn K (.ref C_BadWeb) = some (.type "type"))
    {nm_BadWeb qn_BadWeb : Str} {N_BadWeb : _} {bs_BadWeb : _} {sn_BadWeb : _} {sb_BadWeb : _} {ab_BadWeb : _} {co_BadWeb : _} {dd_BadWeb : _} {m0_BadWeb m1_BadWeb m2_BadWeb m3_BadWeb m5_BadWeb : _}
    (x_BadWeb : K.lookup C_BadWeb = some (excClassObj nm_BadWeb qn_BadWeb C_BadWeb N_BadWeb bs_BadWeb [.ref C_LineError, .type "ValueError", .type "Exception", .type "BaseException", .type "object"] true sn_BadWeb sb_BadWeb ab_BadWeb co_BadWeb dd_BadWeb m0_BadWeb m1_BadWeb m2_BadWeb m3_BadWeb m5_BadWeb "ValueError.__new__"))
    (sa_BadWeb : PySem.W.findIn K (.ref C_BadWeb) "__setattr__" = some (some (.builtin "object.__setattr__")))
    (kC_BadWeb : PySem.W.keepIn K (.ref C_BadWeb) = true)
    {f11 : Addr}
    (i_BadWeb : PySem.W.findIn K (.ref C_BadWeb) "__init__" = some (some (.ref f11)))
    (ti_BadWeb : PySem.W.typeIn K (.ref f11) = some (.type "function"))
    {od11 an11 : Option Addr} {sl11 : Array (Option Value)} {oc11 kV11 dc11 pm11 cd11 ct11 : Value}
    (l11 : K.lookup f11 = some ⟨oc11, od11, .func (PySem.W.fnOf "__init__" "BadWeb.__init__" (defArgs s_E_BadWeb) (defBody s_E_BadWeb) (defScope s_E_BadWeb) .none kV11 dc11 pm11 an11 cd11 ct11), sl11⟩)
    (c11 : PySem.W.codeIn K cd11 "BadWeb.__init__" = true)
    (k11 : PySem.W.keepIn K (.ref f11) = true)
    (ga_BadWeb : PySem.W.findIn K (.ref C_BadWeb) "__getattribute__" = some (some (.builtin "BaseException.__getattribute__")))
    (gg_BadWeb : PySem.W.findIn K (.ref C_BadWeb) "__getattr__" = some none)
    (hd_BadWeb : PySem.W.hasDictIn K C_BadWeb = true)
    (hc_BadWeb : PySem.W.findIn K (.ref C_BadWeb) "__class__" = some (some (.builtin "object.__class__")))
    (mc_BadWeb : PySem.W.mroIn K C_BadWeb (.type "object") = some true)
    (vx_BadWeb : PySem.W.subIn K (.ref C_BadWeb) (.type "ValueError") = some true)
    (ic_BadWeb : PySem.W.isClsIn K C_BadWeb = true)
    (no_BadWeb_web : PySem.W.findIn K (.ref C_BadWeb) "web" = some none)
    (eC_BadTable : PySem.W.subIn K (.ref C_BadTable) (.type "BaseException") = some true)
    (tC_BadTable : PySem.W.typeIn K (.ref C_BadTable) = some (.type "type"))
    {nm_BadTable qn_BadTable : Str} {N_BadTable : _} {bs_BadTable : _} {sn_BadTable : _} {sb_BadTable : _} {ab_BadTable : _} {co_BadTable : _} {dd_BadTable : _} {m0_BadTable m1_BadTable m2_BadTable m3_BadTable m5_BadTable : _}
    (x_BadTable : K.lookup C_BadTable = some (excClassObj nm_BadTable qn_BadTable C_BadTable N_BadTable bs_BadTable [.ref C_LineError, .type "ValueError", .type "Exception", .type "BaseException", .type "object"] true sn_BadTable sb_BadTable ab_BadTable co_BadTable dd_BadTable m0_BadTable m1_BadTable m2_BadTable m3_BadTable m5_BadTable "ValueError.__new__"))
    (sa_BadTable : PySem.W.findIn K (.ref C_BadTable) "__setattr__" = some (some (.builtin "object.__setattr__")))
    (kC_BadTable : PySem.W.keepIn K (.ref C_BadTable) = true)
    {f12 : Addr}
    (i_BadTable : PySem.W.findIn K (.ref C_BadTable) "__init__" = some (some (.ref f12)))
    (ti_BadTable : PySem.W.typeIn K (.ref f12) = some (.type "function"))
    {od12 an12 : Option Addr} {sl12 : Array (Option Value)} {oc12 kV12 dc12 pm12 cd12 ct12 : Value}
    (l12 : K.lookup f12 = some ⟨oc12, od12, .func (PySem.W.fnOf "__init__" "BadTable.__init__" (defArgs s_E_BadTable) (defBody s_E_BadTable) (defScope s_E_BadTable) .none kV12 dc12 pm12 an12 cd12 ct12), sl12⟩)
    (c12 : PySem.W.codeIn K cd12 "BadTable.__init__" = true)
    (k12 : PySem.W.keepIn K (.ref f12) = true)
    (ga_BadTable : PySem.W.findIn K (.ref C_BadTable) "__getattribute__" = some (some (.builtin "BaseException.__getattribute__")))
    (gg_BadTable : PySem.W.findIn K (.ref C_BadTable) "__getattr__" = some none)
    (hd_BadTable : PySem.W.hasDictIn K C_BadTable = true)
    (hc_BadTable : PySem.W.findIn K (.ref C_BadTable) "__class__" = some (some (.builtin "object.__class__")))
    (mc_BadTable : PySem.W.mroIn K C_BadTable (.type "object") = some true)
    (vx_BadTable : PySem.W.subIn K (.ref C_BadTable) (.type "ValueError") = some true)
    (ic_BadTable : PySem.W.isClsIn K C_BadTable = true)
    (no_BadTable_table : PySem.W.findIn K (.ref C_BadTable) "table" = some none)
    (eC_BadRow : PySem.W.subIn K (.ref C_BadRow) (.type "BaseException") = some true)
    (tC_BadRow : PySem.W.typeIn K (.ref C_BadRow) = some (.type "type"))
    {nm_BadRow qn_BadRow : Str} {N_BadRow : _} {bs_BadRow : _} {sn_BadRow : _} {sb_BadRow : _} {ab_BadRow : _} {co_BadRow : _} {dd_BadRow : _} {m0_BadRow m1_BadRow m2_BadRow m3_BadRow m5_BadRow : _}
    (x_BadRow : K.lookup C_BadRow = some (excClassObj nm_BadRow qn_BadRow C_BadRow N_BadRow bs_BadRow [.ref C_LineError, .type "ValueError", .type "Exception", .type "BaseException", .type "object"] true sn_BadRow sb_BadRow ab_BadRow co_BadRow dd_BadRow m0_BadRow m1_BadRow m2_BadRow m3_BadRow m5_BadRow "ValueError.__new__"))
    (sa_BadRow : PySem.W.findIn K (.ref C_BadRow) "__setattr__" = some (some (.builtin "object.__setattr__")))
    (kC_BadRow : PySem.W.keepIn K (.ref C_BadRow) = true)
    {f13 : Addr}
    (i_BadRow : PySem.W.findIn K (.ref C_BadRow) "__init__" = some (some (.ref f13)))
    (ti_BadRow : PySem.W.typeIn K (.ref f13) = some (.type "function"))
    {od13 an13 : Option Addr} {sl13 : Array (Option Value)} {oc13 kV13 dc13 pm13 cd13 ct13 : Value}
    (l13 : K.lookup f13 = some ⟨oc13, od13, .func (PySem.W.fnOf "__init__" "BadRow.__init__" (defArgs s_E_BadRow) (defBody s_E_BadRow) (defScope s_E_BadRow) .none kV13 dc13 pm13 an13 cd13 ct13), sl13⟩)
    (c13 : PySem.W.codeIn K cd13 "BadRow.__init__" = true)
    (k13 : PySem.W.keepIn K (.ref f13) = true)
    (ga_BadRow : PySem.W.findIn K (.ref C_BadRow) "__getattribute__" = some (some (.builtin "BaseException.__getattribute__")))
    (gg_BadRow : PySem.W.findIn K (.ref C_BadRow) "__getattr__" = some none)
    (hd_BadRow : PySem.W.hasDictIn K C_BadRow = true)
    (hc_BadRow : PySem.W.findIn K (.ref C_BadRow) "__class__" = some (some (.builtin "object.__class__")))
    (mc_BadRow : PySem.W.mroIn K C_BadRow (.type "object") = some true)
    (vx_BadRow : PySem.W.subIn K (.ref C_BadRow) (.type "ValueError") = some true)
    (ic_BadRow : PySem.W.isClsIn K C_BadRow = true)
    (no_BadRow_row : PySem.W.findIn K (.ref C_BadRow) "row" = some none)
    (eC_BadRows : PySem.W.subIn K (.ref C_BadRows) (.type "BaseException") = some true)
    (tC_BadRows : PySem.W.typeIn K (.ref C_BadRows) = some (.type "type"))
    {nm_BadRows qn_BadRows : Str} {N_BadRows : _} {bs_BadRows : _} {sn_BadRows : _} {sb_BadRows : _} {ab_BadRows : _} {co_BadRows : _} {dd_BadRows : _} {m0_BadRows m1_BadRows m2_BadRows m3_BadRows m5_BadRows : _}
    (x_BadRows : K.lookup C_BadRows = some (excClassObj nm_BadRows qn_BadRows C_BadRows N_BadRows bs_BadRows [.ref C_LineError, .type "ValueError", .type "Exception", .type "BaseException", .type "object"] true sn_BadRows sb_BadRows ab_BadRows co_BadRows dd_BadRows m0_BadRows m1_BadRows m2_BadRows m3_BadRows m5_BadRows "ValueError.__new__"))
    (sa_BadRows : PySem.W.findIn K (.ref C_BadRows) "__setattr__" = some (some (.builtin "object.__setattr__")))
    (kC_BadRows : PySem.W.keepIn K (.ref C_BadRows) = true)
    {f14 : Addr}
    (i_BadRows : PySem.W.findIn K (.ref C_BadRows) "__init__" = some (some (.ref f14)))
    (ti_BadRows : PySem.W.typeIn K (.ref f14) = some (.type "function"))
    {od14 an14 : Option Addr} {sl14 : Array (Option Value)} {oc14 kV14 dc14 pm14 cd14 ct14 : Value}
    (l14 : K.lookup f14 = some ⟨oc14, od14, .func (PySem.W.fnOf "__init__" "BadRows.__init__" (defArgs s_E_BadRows) (defBody s_E_BadRows) (defScope s_E_BadRows) .none kV14 dc14 pm14 an14 cd14 ct14), sl14⟩)
    (c14 : PySem.W.codeIn K cd14 "BadRows.__init__" = true)
    (k14 : PySem.W.keepIn K (.ref f14) = true)
    (ga_BadRows : PySem.W.findIn K (.ref C_BadRows) "__getattribute__" = some (some (.builtin "BaseException.__getattribute__")))
    (gg_BadRows : PySem.W.findIn K (.ref C_BadRows) "__getattr__" = some none)
    (hd_BadRows : PySem.W.hasDictIn K C_BadRows = true)
    (hc_BadRows : PySem.W.findIn K (.ref C_BadRows) "__class__" = some (some (.builtin "object.__class__")))
    (mc_BadRows : PySem.W.mroIn K C_BadRows (.type "object") = some true)
    (vx_BadRows : PySem.W.subIn K (.ref C_BadRows) (.type "ValueError") = some true)
    (ic_BadRows : PySem.W.isClsIn K C_BadRows = true)
    (no_BadRows_rows : PySem.W.findIn K (.ref C_BadRows) "rows" = some none)
    (eC_BadSystem : PySem.W.subIn K (.ref C_BadSystem) (.type "BaseException") = some true)
    (tC_BadSystem : PySem.W.typeIn K (.ref C_BadSystem) = some (.type "type"))
    {nm_BadSystem qn_BadSystem : Str} {N_BadSystem : _} {bs_BadSystem : _} {sn_BadSystem : _} {sb_BadSystem : _} {ab_BadSystem : _} {co_BadSystem : _} {dd_BadSystem : _} {m0_BadSystem m1_BadSystem m2_BadSystem m3_BadSystem m5_BadSystem : _}
    (x_BadSystem : K.lookup C_BadSystem = some (excClassObj nm_BadSystem qn_BadSystem C_BadSystem N_BadSystem bs_BadSystem [.ref C_LineError, .type "ValueError", .type "Exception", .type "BaseException", .type "object"] true sn_BadSystem sb_BadSystem ab_BadSystem co_BadSystem dd_BadSystem m0_BadSystem m1_BadSystem m2_BadSystem m3_BadSystem m5_BadSystem "ValueError.__new__"))
    (sa_BadSystem : PySem.W.findIn K (.ref C_BadSystem) "__setattr__" = some (some (.builtin "object.__setattr__")))
    (kC_BadSystem : PySem.W.keepIn K (.ref C_BadSystem) = true)
    {f15 : Addr}
    (i_BadSystem : PySem.W.findIn K (.ref C_BadSystem) "__init__" = some (some (.ref f15)))
    (ti_BadSystem : PySem.W.typeIn K (.ref f15) = some (.type "function"))
    {od15 an15 : Option Addr} {sl15 : Array (Option Value)} {oc15 kV15 dc15 pm15 cd15 ct15 : Value}
    (l15 : K.lookup f15 = some ⟨oc15, od15, .func (PySem.W.fnOf "__init__" "BadSystem.__init__" (defArgs s_E_BadSystem) (defBody s_E_BadSystem) (defScope s_E_BadSystem) .none kV15 dc15 pm15 an15 cd15 ct15), sl15⟩)
    (c15 : PySem.W.codeIn K cd15 "BadSystem.__init__" = true)
    (k15 : PySem.W.keepIn K (.ref f15) = true)
    (ga_BadSystem : PySem.W.findIn K (.ref C_BadSystem) "__getattribute__" = some (some (.builtin "BaseException.__getattribute__")))
    (gg_BadSystem : PySem.W.findIn K (.ref C_BadSystem) "__getattr__" = some none)
    (hd_BadSystem : PySem.W.hasDictIn K C_BadSystem = true)
    (hc_BadSystem : PySem.W.findIn K (.ref C_BadSystem) "__class__" = some (some (.builtin "object.__class__")))
    (mc_BadSystem : PySem.W.mroIn K C_BadSystem (.type "object") = some true)
    (vx_BadSystem : PySem.W.subIn K (.ref C_BadSystem) (.type "ValueError") = some true)
    (ic_BadSystem : PySem.W.isClsIn K C_BadSystem = true)
    (no_BadSystem_system : PySem.W.findIn K (.ref C_BadSystem) "system" = some none)
    (eC_BadRoot : PySem.W.subIn K (.ref C_BadRoot) (.type "BaseException") = some true)
    (tC_BadRoot : PySem.W.typeIn K (.ref C_BadRoot) = some (.type "type"))
    {nm_BadRoot qn_BadRoot : Str} {N_BadRoot : _} {bs_BadRoot : _} {sn_BadRoot : _} {sb_BadRoot : _} {ab_BadRoot : _} {co_BadRoot : _} {dd_BadRoot : _} {m0_BadRoot m1_BadRoot m2_BadRoot m3_BadRoot m5_BadRoot : _}
    (x_BadRoot : K.lookup C_BadRoot = some (excClassObj nm_BadRoot qn_BadRoot C_BadRoot N_BadRoot bs_BadRoot [.ref C_LineError, .type "ValueError", .type "Exception", .type "BaseException", .type "object"] true sn_BadRoot sb_BadRoot ab_BadRoot co_BadRoot dd_BadRoot m0_BadRoot m1_BadRoot m2_BadRoot m3_BadRoot m5_BadRoot "ValueError.__new__"))
    (sa_BadRoot : PySem.W.findIn K (.ref C_BadRoot) "__setattr__" = some (some (.builtin "object.__setattr__")))
    (kC_BadRoot : PySem.W.keepIn K (.ref C_BadRoot) = true)
    {f16 : Addr}
    (i_BadRoot : PySem.W.findIn K (.ref C_BadRoot) "__init__" = some (some (.ref f16)))
    (ti_BadRoot : PySem.W.typeIn K (.ref f16) = some (.type "function"))
    {od16 an16 : Option Addr} {sl16 : Array (Option Value)} {oc16 kV16 dc16 pm16 cd16 ct16 : Value}
    (l16 : K.lookup f16 = some ⟨oc16, od16, .func (PySem.W.fnOf "__init__" "BadRoot.__init__" (defArgs s_E_BadRoot) (defBody s_E_BadRoot) (defScope s_E_BadRoot) .none kV16 dc16 pm16 an16 cd16 ct16), sl16⟩)
    (c16 : PySem.W.codeIn K cd16 "BadRoot.__init__" = true)
    (k16 : PySem.W.keepIn K (.ref f16) = true)
    (ga_BadRoot : PySem.W.findIn K (.ref C_BadRoot) "__getattribute__" = some (some (.builtin "BaseException.__getattribute__")))
    (gg_BadRoot : PySem.W.findIn K (.ref C_BadRoot) "__getattr__" = some none)
    (hd_BadRoot : PySem.W.hasDictIn K C_BadRoot = true)
    (hc_BadRoot : PySem.W.findIn K (.ref C_BadRoot) "__class__" = some (some (.builtin "object.__class__")))
    (mc_BadRoot : PySem.W.mroIn K C_BadRoot (.type "object") = some true)
    (vx_BadRoot : PySem.W.subIn K (.ref C_BadRoot) (.type "ValueError") = some true)
    (ic_BadRoot : PySem.W.isClsIn K C_BadRoot = true)
    (no_BadRoot_root : PySem.W.findIn K (.ref C_BadRoot) "root" = some none)
    (eC_BadPaper : PySem.W.subIn K (.ref C_BadPaper) (.type "BaseException") = some true)
    (tC_BadPaper : PySem.W.typeIn K (.ref C_BadPaper) = some (.type "type"))
    {nm_BadPaper qn_BadPaper : Str} {N_BadPaper : _} {bs_BadPaper : _} {sn_BadPaper : _} {sb_BadPaper : _} {ab_BadPaper : _} {co_BadPaper : _} {dd_BadPaper : _} {m0_BadPaper m1_BadPaper m2_BadPaper m3_BadPaper m5_BadPaper : _}
    (x_BadPaper : K.lookup C_BadPaper = some (excClassObj nm_BadPaper qn_BadPaper C_BadPaper N_BadPaper bs_BadPaper [.ref C_LineError, .type "ValueError", .type "Exception", .type "BaseException", .type "object"] true sn_BadPaper sb_BadPaper ab_BadPaper co_BadPaper dd_BadPaper m0_BadPaper m1_BadPaper m2_BadPaper m3_BadPaper m5_BadPaper "ValueError.__new__"))
    (sa_BadPaper : PySem.W.findIn K (.ref C_BadPaper) "__setattr__" = some (some (.builtin "object.__setattr__")))
    (kC_BadPaper : PySem.W.keepIn K (.ref C_BadPaper) = true)
    {f17 : Addr}
    (i_BadPaper : PySem.W.findIn K (.ref C_BadPaper) "__init__" = some (some (.ref f17)))
    (ti_BadPaper : PySem.W.typeIn K (.ref f17) = some (.type "function"))
    {od17 an17 : Option Addr} {sl17 : Array (Option Value)} {oc17 kV17 dc17 pm17 cd17 ct17 : Value}
    (l17 : K.lookup f17 = some ⟨oc17, od17, .func (PySem.W.fnOf "__init__" "BadPaper.__init__" (defArgs s_E_BadPaper) (defBody s_E_BadPaper) (defScope s_E_BadPaper) .none kV17 dc17 pm17 an17 cd17 ct17), sl17⟩)
    (c17 : PySem.W.codeIn K cd17 "BadPaper.__init__" = true)
    (k17 : PySem.W.keepIn K (.ref f17) = true)
    (ga_BadPaper : PySem.W.findIn K (.ref C_BadPaper) "__getattribute__" = some (some (.builtin "BaseException.__getattribute__")))
    (gg_BadPaper : PySem.W.findIn K (.ref C_BadPaper) "__getattr__" = some none)
    (hd_BadPaper : PySem.W.hasDictIn K C_BadPaper = true)
    (hc_BadPaper : PySem.W.findIn K (.ref C_BadPaper) "__class__" = some (some (.builtin "object.__class__")))
    (mc_BadPaper : PySem.W.mroIn K C_BadPaper (.type "object") = some true)
    (vx_BadPaper : PySem.W.subIn K (.ref C_BadPaper) (.type "ValueError") = some true)
    (ic_BadPaper : PySem.W.isClsIn K C_BadPaper = true)
    (no_BadPaper_paper : PySem.W.findIn K (.ref C_BadPaper) "paper" = some none)
    (eC_NotKept : PySem.W.subIn K (.ref C_NotKept) (.type "BaseException") = some true)
    (tC_NotKept : PySem.W.typeIn K (.ref C_NotKept) = some (.type "type"))
    {nm_NotKept qn_NotKept : Str} {N_NotKept : _} {bs_NotKept : _} {sn_NotKept : _} {sb_NotKept : _} {ab_NotKept : _} {co_NotKept : _} {dd_NotKept : _} {m0_NotKept m1_NotKept m2_NotKept m3_NotKept m5_NotKept : _}
    (x_NotKept : K.lookup C_NotKept = some (excClassObj nm_NotKept qn_NotKept C_NotKept N_NotKept bs_NotKept [.ref C_LineError, .type "ValueError", .type "Exception", .type "BaseException", .type "object"] true sn_NotKept sb_NotKept ab_NotKept co_NotKept dd_NotKept m0_NotKept m1_NotKept m2_NotKept m3_NotKept m5_NotKept "ValueError.__new__"))
    (sa_NotKept : PySem.W.findIn K (.ref C_NotKept) "__setattr__" = some (some (.builtin "object.__setattr__")))
    (kC_NotKept : PySem.W.keepIn K (.ref C_NotKept) = true)
    {f18 : Addr}
    (i_NotKept : PySem.W.findIn K (.ref C_NotKept) "__init__" = some (some (.ref f18)))
    (ti_NotKept : PySem.W.typeIn K (.ref f18) = some (.type "function"))
    {od18 an18 : Option Addr} {sl18 : Array (Option Value)} {oc18 kV18 dc18 pm18 cd18 ct18 : Value}
    (l18 : K.lookup f18 = some ⟨oc18, od18, .func (PySem.W.fnOf "__init__" "NotKept.__init__" (defArgs s_E_NotKept) (defBody s_E_NotKept) (defScope s_E_NotKept) .none kV18 dc18 pm18 an18 cd18 ct18), sl18⟩)
    (c18 : PySem.W.codeIn K cd18 "NotKept.__init__" = true)
    (k18 : PySem.W.keepIn K (.ref f18) = true)
    (ga_NotKept : PySem.W.findIn K (.ref C_NotKept) "__getattribute__" = some (some (.builtin "BaseException.__getattribute__")))
    (gg_NotKept : PySem.W.findIn K (.ref C_NotKept) "__getattr__" = some none)
    (hd_NotKept : PySem.W.hasDictIn K C_NotKept = true)
    (hc_NotKept : PySem.W.findIn K (.ref C_NotKept) "__class__" = some (some (.builtin "object.__class__")))
    (mc_NotKept : PySem.W.mroIn K C_NotKept (.type "object") = some true)
    (vx_NotKept : PySem.W.subIn K (.ref C_NotKept) (.type "ValueError") = some true)
    (ic_NotKept : PySem.W.isClsIn K C_NotKept = true)
    (no_NotKept_promise : PySem.W.findIn K (.ref C_NotKept) "promise" = some none)
    (no_NotKept_witness : PySem.W.findIn K (.ref C_NotKept) "witness" = some none)
    (eC_NothingToUndo : PySem.W.subIn K (.ref C_NothingToUndo) (.type "BaseException") = some true)
    (ga_NothingToUndo : PySem.W.findIn K (.ref C_NothingToUndo) "__getattribute__" = some (some (.builtin "BaseException.__getattribute__")))
    (gg_NothingToUndo : PySem.W.findIn K (.ref C_NothingToUndo) "__getattr__" = some none)
    (hd_NothingToUndo : PySem.W.hasDictIn K C_NothingToUndo = true)
    (hc_NothingToUndo : PySem.W.findIn K (.ref C_NothingToUndo) "__class__" = some (some (.builtin "object.__class__")))
    (mc_NothingToUndo : PySem.W.mroIn K C_NothingToUndo (.type "object") = some true)
    (vx_NothingToUndo : PySem.W.subIn K (.ref C_NothingToUndo) (.type "ValueError") = some true)
    (ic_NothingToUndo : PySem.W.isClsIn K C_NothingToUndo = true)
    (tC_NothingToUndo : PySem.W.typeIn K (.ref C_NothingToUndo) = some (.type "type"))
    (k0_NothingToUndo : PySem.W.keepIn K (.ref C_NothingToUndo) = true)
    (x0_NothingToUndo : PySem.W.excIn K C_NothingToUndo [.type "ValueError", .type "Exception", .type "BaseException", .type "object"] "ValueError.__new__" = true)
    (eC_NothingToRedo : PySem.W.subIn K (.ref C_NothingToRedo) (.type "BaseException") = some true)
    (ga_NothingToRedo : PySem.W.findIn K (.ref C_NothingToRedo) "__getattribute__" = some (some (.builtin "BaseException.__getattribute__")))
    (gg_NothingToRedo : PySem.W.findIn K (.ref C_NothingToRedo) "__getattr__" = some none)
    (hd_NothingToRedo : PySem.W.hasDictIn K C_NothingToRedo = true)
    (hc_NothingToRedo : PySem.W.findIn K (.ref C_NothingToRedo) "__class__" = some (some (.builtin "object.__class__")))
    (mc_NothingToRedo : PySem.W.mroIn K C_NothingToRedo (.type "object") = some true)
    (vx_NothingToRedo : PySem.W.subIn K (.ref C_NothingToRedo) (.type "ValueError") = some true)
    (ic_NothingToRedo : PySem.W.isClsIn K C_NothingToRedo = true)
    (tC_NothingToRedo : PySem.W.typeIn K (.ref C_NothingToRedo) = some (.type "type"))
    (k0_NothingToRedo : PySem.W.keepIn K (.ref C_NothingToRedo) = true)
    (x0_NothingToRedo : PySem.W.excIn K C_NothingToRedo [.type "ValueError", .type "Exception", .type "BaseException", .type "object"] "ValueError.__new__" = true)
    (q_BadText_LineError : PySem.W.subIn K (.ref C_BadText) (.ref C_LineError) = some true)
    (q_BadNumber_LineError : PySem.W.subIn K (.ref C_BadNumber) (.ref C_LineError) = some true)
    (q_BadName_LineError : PySem.W.subIn K (.ref C_BadName) (.ref C_LineError) = some true)
    (q_NoName_LineError : PySem.W.subIn K (.ref C_NoName) (.ref C_LineError) = some true)
    (q_TakenName_LineError : PySem.W.subIn K (.ref C_TakenName) (.ref C_LineError) = some true)
    (q_BadWeb_LineError : PySem.W.subIn K (.ref C_BadWeb) (.ref C_LineError) = some true)
    (q_BadTable_LineError : PySem.W.subIn K (.ref C_BadTable) (.ref C_LineError) = some true)
    (q_BadRow_LineError : PySem.W.subIn K (.ref C_BadRow) (.ref C_LineError) = some true)
    (q_BadRows_LineError : PySem.W.subIn K (.ref C_BadRows) (.ref C_LineError) = some true)
    (q_BadSystem_LineError : PySem.W.subIn K (.ref C_BadSystem) (.ref C_LineError) = some true)
    (q_BadRoot_LineError : PySem.W.subIn K (.ref C_BadRoot) (.ref C_LineError) = some true)
    (q_BadPaper_LineError : PySem.W.subIn K (.ref C_BadPaper) (.ref C_LineError) = some true)
    (q_NotKept_LineError : PySem.W.subIn K (.ref C_NotKept) (.ref C_LineError) = some true)
    (q_NothingToUndo_LineError : PySem.W.subIn K (.ref C_NothingToUndo) (.ref C_LineError) = some true)
    (q_NothingToRedo_LineError : PySem.W.subIn K (.ref C_NothingToRedo) (.ref C_LineError) = some true)
    (q_LineError_LineError : PySem.W.subIn K (.ref C_LineError) (.ref C_LineError) = some true)
    (q_BadText_BadText : PySem.W.subIn K (.ref C_BadText) (.ref C_BadText) = some true)
    (q_BadNumber_BadText : PySem.W.subIn K (.ref C_BadNumber) (.ref C_BadText) = some false)
    (q_BadName_BadText : PySem.W.subIn K (.ref C_BadName) (.ref C_BadText) = some false)
    (q_NoName_BadText : PySem.W.subIn K (.ref C_NoName) (.ref C_BadText) = some false)
    (q_TakenName_BadText : PySem.W.subIn K (.ref C_TakenName) (.ref C_BadText) = some false)
    (q_BadWeb_BadText : PySem.W.subIn K (.ref C_BadWeb) (.ref C_BadText) = some false)
    (q_BadTable_BadText : PySem.W.subIn K (.ref C_BadTable) (.ref C_BadText) = some false)
    (q_BadRow_BadText : PySem.W.subIn K (.ref C_BadRow) (.ref C_BadText) = some false)
    (q_BadRows_BadText : PySem.W.subIn K (.ref C_BadRows) (.ref C_BadText) = some false)
    (q_BadSystem_BadText : PySem.W.subIn K (.ref C_BadSystem) (.ref C_BadText) = some false)
    (q_BadRoot_BadText : PySem.W.subIn K (.ref C_BadRoot) (.ref C_BadText) = some false)
    (q_BadPaper_BadText : PySem.W.subIn K (.ref C_BadPaper) (.ref C_BadText) = some false)
    (q_NotKept_BadText : PySem.W.subIn K (.ref C_NotKept) (.ref C_BadText) = some false)
    (q_NothingToUndo_BadText : PySem.W.subIn K (.ref C_NothingToUndo) (.ref C_BadText) = some false)
    (q_NothingToRedo_BadText : PySem.W.subIn K (.ref C_NothingToRedo) (.ref C_BadText) = some false)
    (q_BadText_BadNumber : PySem.W.subIn K (.ref C_BadText) (.ref C_BadNumber) = some false)
    (q_BadNumber_BadNumber : PySem.W.subIn K (.ref C_BadNumber) (.ref C_BadNumber) = some true)
    (q_BadName_BadNumber : PySem.W.subIn K (.ref C_BadName) (.ref C_BadNumber) = some false)
    (q_NoName_BadNumber : PySem.W.subIn K (.ref C_NoName) (.ref C_BadNumber) = some false)
    (q_TakenName_BadNumber : PySem.W.subIn K (.ref C_TakenName) (.ref C_BadNumber) = some false)
    (q_BadWeb_BadNumber : PySem.W.subIn K (.ref C_BadWeb) (.ref C_BadNumber) = some false)
    (q_BadTable_BadNumber : PySem.W.subIn K (.ref C_BadTable) (.ref C_BadNumber) = some false)
    (q_BadRow_BadNumber : PySem.W.subIn K (.ref C_BadRow) (.ref C_BadNumber) = some false)
    (q_BadRows_BadNumber : PySem.W.subIn K (.ref C_BadRows) (.ref C_BadNumber) = some false)
    (q_BadSystem_BadNumber : PySem.W.subIn K (.ref C_BadSystem) (.ref C_BadNumber) = some false)
    (q_BadRoot_BadNumber : PySem.W.subIn K (.ref C_BadRoot) (.ref C_BadNumber) = some false)
    (q_BadPaper_BadNumber : PySem.W.subIn K (.ref C_BadPaper) (.ref C_BadNumber) = some false)
    (q_NotKept_BadNumber : PySem.W.subIn K (.ref C_NotKept) (.ref C_BadNumber) = some false)
    (q_NothingToUndo_BadNumber : PySem.W.subIn K (.ref C_NothingToUndo) (.ref C_BadNumber) = some false)
    (q_NothingToRedo_BadNumber : PySem.W.subIn K (.ref C_NothingToRedo) (.ref C_BadNumber) = some false)
    (q_BadText_BadName : PySem.W.subIn K (.ref C_BadText) (.ref C_BadName) = some false)
    (q_BadNumber_BadName : PySem.W.subIn K (.ref C_BadNumber) (.ref C_BadName) = some false)
    (q_BadName_BadName : PySem.W.subIn K (.ref C_BadName) (.ref C_BadName) = some true)
    (q_NoName_BadName : PySem.W.subIn K (.ref C_NoName) (.ref C_BadName) = some false)
    (q_TakenName_BadName : PySem.W.subIn K (.ref C_TakenName) (.ref C_BadName) = some false)
    (q_BadWeb_BadName : PySem.W.subIn K (.ref C_BadWeb) (.ref C_BadName) = some false)
    (q_BadTable_BadName : PySem.W.subIn K (.ref C_BadTable) (.ref C_BadName) = some false)
    (q_BadRow_BadName : PySem.W.subIn K (.ref C_BadRow) (.ref C_BadName) = some false)
    (q_BadRows_BadName : PySem.W.subIn K (.ref C_BadRows) (.ref C_BadName) = some false)
    (q_BadSystem_BadName : PySem.W.subIn K (.ref C_BadSystem) (.ref C_BadName) = some false)
    (q_BadRoot_BadName : PySem.W.subIn K (.ref C_BadRoot) (.ref C_BadName) = some false)
    (q_BadPaper_BadName : PySem.W.subIn K (.ref C_BadPaper) (.ref C_BadName) = some false)
    (q_NotKept_BadName : PySem.W.subIn K (.ref C_NotKept) (.ref C_BadName) = some false)
    (q_NothingToUndo_BadName : PySem.W.subIn K (.ref C_NothingToUndo) (.ref C_BadName) = some false)
    (q_NothingToRedo_BadName : PySem.W.subIn K (.ref C_NothingToRedo) (.ref C_BadName) = some false)
    (q_BadText_NoName : PySem.W.subIn K (.ref C_BadText) (.ref C_NoName) = some false)
    (q_BadNumber_NoName : PySem.W.subIn K (.ref C_BadNumber) (.ref C_NoName) = some false)
    (q_BadName_NoName : PySem.W.subIn K (.ref C_BadName) (.ref C_NoName) = some false)
    (q_NoName_NoName : PySem.W.subIn K (.ref C_NoName) (.ref C_NoName) = some true)
    (q_TakenName_NoName : PySem.W.subIn K (.ref C_TakenName) (.ref C_NoName) = some false)
    (q_BadWeb_NoName : PySem.W.subIn K (.ref C_BadWeb) (.ref C_NoName) = some false)
    (q_BadTable_NoName : PySem.W.subIn K (.ref C_BadTable) (.ref C_NoName) = some false)
    (q_BadRow_NoName : PySem.W.subIn K (.ref C_BadRow) (.ref C_NoName) = some false)
    (q_BadRows_NoName : PySem.W.subIn K (.ref C_BadRows) (.ref C_NoName) = some false)
    (q_BadSystem_NoName : PySem.W.subIn K (.ref C_BadSystem) (.ref C_NoName) = some false)
    (q_BadRoot_NoName : PySem.W.subIn K (.ref C_BadRoot) (.ref C_NoName) = some false)
    (q_BadPaper_NoName : PySem.W.subIn K (.ref C_BadPaper) (.ref C_NoName) = some false)
    (q_NotKept_NoName : PySem.W.subIn K (.ref C_NotKept) (.ref C_NoName) = some false)
    (q_NothingToUndo_NoName : PySem.W.subIn K (.ref C_NothingToUndo) (.ref C_NoName) = some false)
    (q_NothingToRedo_NoName : PySem.W.subIn K (.ref C_NothingToRedo) (.ref C_NoName) = some false)
    (q_BadText_TakenName : PySem.W.subIn K (.ref C_BadText) (.ref C_TakenName) = some false)
    (q_BadNumber_TakenName : PySem.W.subIn K (.ref C_BadNumber) (.ref C_TakenName) = some false)
    (q_BadName_TakenName : PySem.W.subIn K (.ref C_BadName) (.ref C_TakenName) = some false)
    (q_NoName_TakenName : PySem.W.subIn K (.ref C_NoName) (.ref C_TakenName) = some false)
    (q_TakenName_TakenName : PySem.W.subIn K (.ref C_TakenName) (.ref C_TakenName) = some true)
    (q_BadWeb_TakenName : PySem.W.subIn K (.ref C_BadWeb) (.ref C_TakenName) = some false)
    (q_BadTable_TakenName : PySem.W.subIn K (.ref C_BadTable) (.ref C_TakenName) = some false)
    (q_BadRow_TakenName : PySem.W.subIn K (.ref C_BadRow) (.ref C_TakenName) = some false)
    (q_BadRows_TakenName : PySem.W.subIn K (.ref C_BadRows) (.ref C_TakenName) = some false)
    (q_BadSystem_TakenName : PySem.W.subIn K (.ref C_BadSystem) (.ref C_TakenName) = some false)
    (q_BadRoot_TakenName : PySem.W.subIn K (.ref C_BadRoot) (.ref C_TakenName) = some false)
    (q_BadPaper_TakenName : PySem.W.subIn K (.ref C_BadPaper) (.ref C_TakenName) = some false)
    (q_NotKept_TakenName : PySem.W.subIn K (.ref C_NotKept) (.ref C_TakenName) = some false)
    (q_NothingToUndo_TakenName : PySem.W.subIn K (.ref C_NothingToUndo) (.ref C_TakenName) = some false)
    (q_NothingToRedo_TakenName : PySem.W.subIn K (.ref C_NothingToRedo) (.ref C_TakenName) = some false)
    (q_BadText_BadWeb : PySem.W.subIn K (.ref C_BadText) (.ref C_BadWeb) = some false)
    (q_BadNumber_BadWeb : PySem.W.subIn K (.ref C_BadNumber) (.ref C_BadWeb) = some false)
    (q_BadName_BadWeb : PySem.W.subIn K (.ref C_BadName) (.ref C_BadWeb) = some false)
    (q_NoName_BadWeb : PySem.W.subIn K (.ref C_NoName) (.ref C_BadWeb) = some false)
    (q_TakenName_BadWeb : PySem.W.subIn K (.ref C_TakenName) (.ref C_BadWeb) = some false)
    (q_BadWeb_BadWeb : PySem.W.subIn K (.ref C_BadWeb) (.ref C_BadWeb) = some true)
    (q_BadTable_BadWeb : PySem.W.subIn K (.ref C_BadTable) (.ref C_BadWeb) = some false)
    (q_BadRow_BadWeb : PySem.W.subIn K (.ref C_BadRow) (.ref C_BadWeb) = some false)
    (q_BadRows_BadWeb : PySem.W.subIn K (.ref C_BadRows) (.ref C_BadWeb) = some false)
    (q_BadSystem_BadWeb : PySem.W.subIn K (.ref C_BadSystem) (.ref C_BadWeb) = some false)
    (q_BadRoot_BadWeb : PySem.W.subIn K (.ref C_BadRoot) (.ref C_BadWeb) = some false)
    (q_BadPaper_BadWeb : PySem.W.subIn K (.ref C_BadPaper) (.ref C_BadWeb) = some false)
    (q_NotKept_BadWeb : PySem.W.subIn K (.ref C_NotKept) (.ref C_BadWeb) = some false)
    (q_NothingToUndo_BadWeb : PySem.W.subIn K (.ref C_NothingToUndo) (.ref C_BadWeb) = some false)
    (q_NothingToRedo_BadWeb : PySem.W.subIn K (.ref C_NothingToRedo) (.ref C_BadWeb) = some false)
    (q_BadText_BadTable : PySem.W.subIn K (.ref C_BadText) (.ref C_BadTable) = some false)
    (q_BadNumber_BadTable : PySem.W.subIn K (.ref C_BadNumber) (.ref C_BadTable) = some false)
    (q_BadName_BadTable : PySem.W.subIn K (.ref C_BadName) (.ref C_BadTable) = some false)
    (q_NoName_BadTable : PySem.W.subIn K (.ref C_NoName) (.ref C_BadTable) = some false)
    (q_TakenName_BadTable : PySem.W.subIn K (.ref C_TakenName) (.ref C_BadTable) = some false)
    (q_BadWeb_BadTable : PySem.W.subIn K (.ref C_BadWeb) (.ref C_BadTable) = some false)
    (q_BadTable_BadTable : PySem.W.subIn K (.ref C_BadTable) (.ref C_BadTable) = some true)
    (q_BadRow_BadTable : PySem.W.subIn K (.ref C_BadRow) (.ref C_BadTable) = some false)
    (q_BadRows_BadTable : PySem.W.subIn K (.ref C_BadRows) (.ref C_BadTable) = some false)
    (q_BadSystem_BadTable : PySem.W.subIn K (.ref C_BadSystem) (.ref C_BadTable) = some false)
    (q_BadRoot_BadTable : PySem.W.subIn K (.ref C_BadRoot) (.ref C_BadTable) = some false)
    (q_BadPaper_BadTable : PySem.W.subIn K (.ref C_BadPaper) (.ref C_BadTable) = some false)
    (q_NotKept_BadTable : PySem.W.subIn K (.ref C_NotKept) (.ref C_BadTable) = some false)
    (q_NothingToUndo_BadTable : PySem.W.subIn K (.ref C_NothingToUndo) (.ref C_BadTable) = some false)
    (q_NothingToRedo_BadTable : PySem.W.subIn K (.ref C_NothingToRedo) (.ref C_BadTable) = some false)
    (q_BadText_BadRow : PySem.W.subIn K (.ref C_BadText) (.ref C_BadRow) = some false)
    (q_BadNumber_BadRow : PySem.W.subIn K (.ref C_BadNumber) (.ref C_BadRow) = some false)
    (q_BadName_BadRow : PySem.W.subIn K (.ref C_BadName) (.ref C_BadRow) = some false)
    (q_NoName_BadRow : PySem.W.subIn K (.ref C_NoName) (.ref C_BadRow) = some false)
    (q_TakenName_BadRow : PySem.W.subIn K (.ref C_TakenName) (.ref C_BadRow) = some false)
    (q_BadWeb_BadRow : PySem.W.subIn K (.ref C_BadWeb) (.ref C_BadRow) = some false)
    (q_BadTable_BadRow : PySem.W.subIn K (.ref C_BadTable) (.ref C_BadRow) = some false)
    (q_BadRow_BadRow : PySem.W.subIn K (.ref C_BadRow) (.ref C_BadRow) = some true)
    (q_BadRows_BadRow : PySem.W.subIn K (.ref C_BadRows) (.ref C_BadRow) = some false)
    (q_BadSystem_BadRow : PySem.W.subIn K (.ref C_BadSystem) (.ref C_BadRow) = some false)
    (q_BadRoot_BadRow : PySem.W.subIn K (.ref C_BadRoot) (.ref C_BadRow) = some false)
    (q_BadPaper_BadRow : PySem.W.subIn K (.ref C_BadPaper) (.ref C_BadRow) = some false)
    (q_NotKept_BadRow : PySem.W.subIn K (.ref C_NotKept) (.ref C_BadRow) = some false)
    (q_NothingToUndo_BadRow : PySem.W.subIn K (.ref C_NothingToUndo) (.ref C_BadRow) = some false)
    (q_NothingToRedo_BadRow : PySem.W.subIn K (.ref C_NothingToRedo) (.ref C_BadRow) = some false)
    (q_BadText_BadRows : PySem.W.subIn K (.ref C_BadText) (.ref C_BadRows) = some false)
    (q_BadNumber_BadRows : PySem.W.subIn K (.ref C_BadNumber) (.ref C_BadRows) = some false)
    (q_BadName_BadRows : PySem.W.subIn K (.ref C_BadName) (.ref C_BadRows) = some false)
    (q_NoName_BadRows : PySem.W.subIn K (.ref C_NoName) (.ref C_BadRows) = some false)
    (q_TakenName_BadRows : PySem.W.subIn K (.ref C_TakenName) (.ref C_BadRows) = some false)
    (q_BadWeb_BadRows : PySem.W.subIn K (.ref C_BadWeb) (.ref C_BadRows) = some false)
    (q_BadTable_BadRows : PySem.W.subIn K (.ref C_BadTable) (.ref C_BadRows) = some false)
    (q_BadRow_BadRows : PySem.W.subIn K (.ref C_BadRow) (.ref C_BadRows) = some false)
    (q_BadRows_BadRows : PySem.W.subIn K (.ref C_BadRows) (.ref C_BadRows) = some true)
    (q_BadSystem_BadRows : PySem.W.subIn K (.ref C_BadSystem) (.ref C_BadRows) = some false)
    (q_BadRoot_BadRows : PySem.W.subIn K (.ref C_BadRoot) (.ref C_BadRows) = some false)
    (q_BadPaper_BadRows : PySem.W.subIn K (.ref C_BadPaper) (.ref C_BadRows) = some false)
    (q_NotKept_BadRows : PySem.W.subIn K (.ref C_NotKept) (.ref C_BadRows) = some false)
    (q_NothingToUndo_BadRows : PySem.W.subIn K (.ref C_NothingToUndo) (.ref C_BadRows) = some false)
    (q_NothingToRedo_BadRows : PySem.W.subIn K (.ref C_NothingToRedo) (.ref C_BadRows) = some false)
    (q_BadText_BadSystem : PySem.W.subIn K (.ref C_BadText) (.ref C_BadSystem) = some false)
    (q_BadNumber_BadSystem : PySem.W.subIn K (.ref C_BadNumber) (.ref C_BadSystem) = some false)
    (q_BadName_BadSystem : PySem.W.subIn K (.ref C_BadName) (.ref C_BadSystem) = some false)
    (q_NoName_BadSystem : PySem.W.subIn K (.ref C_NoName) (.ref C_BadSystem) = some false)
    (q_TakenName_BadSystem : PySem.W.subIn K (.ref C_TakenName) (.ref C_BadSystem) = some false)
    (q_BadWeb_BadSystem : PySem.W.subIn K (.ref C_BadWeb) (.ref C_BadSystem) = some false)
    (q_BadTable_BadSystem : PySem.W.subIn K (.ref C_BadTable) (.ref C_BadSystem) = some false)
    (q_BadRow_BadSystem : PySem.W.subIn K (.ref C_BadRow) (.ref C_BadSystem) = some false)
    (q_BadRows_BadSystem : PySem.W.subIn K (.ref C_BadRows) (.ref C_BadSystem) = some false)
    (q_BadSystem_BadSystem : PySem.W.subIn K (.ref C_BadSystem) (.ref C_BadSystem) = some true)
    (q_BadRoot_BadSystem : PySem.W.subIn K (.ref C_BadRoot) (.ref C_BadSystem) = some false)
    (q_BadPaper_BadSystem : PySem.W.subIn K (.ref C_BadPaper) (.ref C_BadSystem) = some false)
    (q_NotKept_BadSystem : PySem.W.subIn K (.ref C_NotKept) (.ref C_BadSystem) = some false)
    (q_NothingToUndo_BadSystem : PySem.W.subIn K (.ref C_NothingToUndo) (.ref C_BadSystem) = some false)
    (q_NothingToRedo_BadSystem : PySem.W.subIn K (.ref C_NothingToRedo) (.ref C_BadSystem) = some false)
    (q_BadText_BadRoot : PySem.W.subIn K (.ref C_BadText) (.ref C_BadRoot) = some false)
    (q_BadNumber_BadRoot : PySem.W.subIn K (.ref C_BadNumber) (.ref C_BadRoot) = some false)
    (q_BadName_BadRoot : PySem.W.subIn K (.ref C_BadName) (.ref C_BadRoot) = some false)
    (q_NoName_BadRoot : PySem.W.subIn K (.ref C_NoName) (.ref C_BadRoot) = some false)
    (q_TakenName_BadRoot : PySem.W.subIn K (.ref C_TakenName) (.ref C_BadRoot) = some false)
    (q_BadWeb_BadRoot : PySem.W.subIn K (.ref C_BadWeb) (.ref C_BadRoot) = some false)
    (q_BadTable_BadRoot : PySem.W.subIn K (.ref C_BadTable) (.ref C_BadRoot) = some false)
    (q_BadRow_BadRoot : PySem.W.subIn K (.ref C_BadRow) (.ref C_BadRoot) = some false)
    (q_BadRows_BadRoot : PySem.W.subIn K (.ref C_BadRows) (.ref C_BadRoot) = some false)
    (q_BadSystem_BadRoot : PySem.W.subIn K (.ref C_BadSystem) (.ref C_BadRoot) = some false)
    (q_BadRoot_BadRoot : PySem.W.subIn K (.ref C_BadRoot) (.ref C_BadRoot) = some true)
    (q_BadPaper_BadRoot : PySem.W.subIn K (.ref C_BadPaper) (.ref C_BadRoot) = some false)
    (q_NotKept_BadRoot : PySem.W.subIn K (.ref C_NotKept) (.ref C_BadRoot) = some false)
    (q_NothingToUndo_BadRoot : PySem.W.subIn K (.ref C_NothingToUndo) (.ref C_BadRoot) = some false)
    (q_NothingToRedo_BadRoot : PySem.W.subIn K (.ref C_NothingToRedo) (.ref C_BadRoot) = some false)
    (q_BadText_BadPaper : PySem.W.subIn K (.ref C_BadText) (.ref C_BadPaper) = some false)
    (q_BadNumber_BadPaper : PySem.W.subIn K (.ref C_BadNumber) (.ref C_BadPaper) = some false)
    (q_BadName_BadPaper : PySem.W.subIn K (.ref C_BadName) (.ref C_BadPaper) = some false)
    (q_NoName_BadPaper : PySem.W.subIn K (.ref C_NoName) (.ref C_BadPaper) = some false)
    (q_TakenName_BadPaper : PySem.W.subIn K (.ref C_TakenName) (.ref C_BadPaper) = some false)
    (q_BadWeb_BadPaper : PySem.W.subIn K (.ref C_BadWeb) (.ref C_BadPaper) = some false)
    (q_BadTable_BadPaper : PySem.W.subIn K (.ref C_BadTable) (.ref C_BadPaper) = some false)
    (q_BadRow_BadPaper : PySem.W.subIn K (.ref C_BadRow) (.ref C_BadPaper) = some false)
    (q_BadRows_BadPaper : PySem.W.subIn K (.ref C_BadRows) (.ref C_BadPaper) = some false)
    (q_BadSystem_BadPaper : PySem.W.subIn K (.ref C_BadSystem) (.ref C_BadPaper) = some false)
    (q_BadRoot_BadPaper : PySem.W.subIn K (.ref C_BadRoot) (.ref C_BadPaper) = some false)
    (q_BadPaper_BadPaper : PySem.W.subIn K (.ref C_BadPaper) (.ref C_BadPaper) = some true)
    (q_NotKept_BadPaper : PySem.W.subIn K (.ref C_NotKept) (.ref C_BadPaper) = some false)
    (q_NothingToUndo_BadPaper : PySem.W.subIn K (.ref C_NothingToUndo) (.ref C_BadPaper) = some false)
    (q_NothingToRedo_BadPaper : PySem.W.subIn K (.ref C_NothingToRedo) (.ref C_BadPaper) = some false)
    (q_BadText_NotKept : PySem.W.subIn K (.ref C_BadText) (.ref C_NotKept) = some false)
    (q_BadNumber_NotKept : PySem.W.subIn K (.ref C_BadNumber) (.ref C_NotKept) = some false)
    (q_BadName_NotKept : PySem.W.subIn K (.ref C_BadName) (.ref C_NotKept) = some false)
    (q_NoName_NotKept : PySem.W.subIn K (.ref C_NoName) (.ref C_NotKept) = some false)
    (q_TakenName_NotKept : PySem.W.subIn K (.ref C_TakenName) (.ref C_NotKept) = some false)
    (q_BadWeb_NotKept : PySem.W.subIn K (.ref C_BadWeb) (.ref C_NotKept) = some false)
    (q_BadTable_NotKept : PySem.W.subIn K (.ref C_BadTable) (.ref C_NotKept) = some false)
    (q_BadRow_NotKept : PySem.W.subIn K (.ref C_BadRow) (.ref C_NotKept) = some false)
    (q_BadRows_NotKept : PySem.W.subIn K (.ref C_BadRows) (.ref C_NotKept) = some false)
    (q_BadSystem_NotKept : PySem.W.subIn K (.ref C_BadSystem) (.ref C_NotKept) = some false)
    (q_BadRoot_NotKept : PySem.W.subIn K (.ref C_BadRoot) (.ref C_NotKept) = some false)
    (q_BadPaper_NotKept : PySem.W.subIn K (.ref C_BadPaper) (.ref C_NotKept) = some false)
    (q_NotKept_NotKept : PySem.W.subIn K (.ref C_NotKept) (.ref C_NotKept) = some true)
    (q_NothingToUndo_NotKept : PySem.W.subIn K (.ref C_NothingToUndo) (.ref C_NotKept) = some false)
    (q_NothingToRedo_NotKept : PySem.W.subIn K (.ref C_NothingToRedo) (.ref C_NotKept) = some false)
    (q_BadText_NothingToUndo : PySem.W.subIn K (.ref C_BadText) (.ref C_NothingToUndo) = some false)
    (q_BadNumber_NothingToUndo : PySem.W.subIn K (.ref C_BadNumber) (.ref C_NothingToUndo) = some false)
    (q_BadName_NothingToUndo : PySem.W.subIn K (.ref C_BadName) (.ref C_NothingToUndo) = some false)
    (q_NoName_NothingToUndo : PySem.W.subIn K (.ref C_NoName) (.ref C_NothingToUndo) = some false)
    (q_TakenName_NothingToUndo : PySem.W.subIn K (.ref C_TakenName) (.ref C_NothingToUndo) = some false)
    (q_BadWeb_NothingToUndo : PySem.W.subIn K (.ref C_BadWeb) (.ref C_NothingToUndo) = some false)
    (q_BadTable_NothingToUndo : PySem.W.subIn K (.ref C_BadTable) (.ref C_NothingToUndo) = some false)
    (q_BadRow_NothingToUndo : PySem.W.subIn K (.ref C_BadRow) (.ref C_NothingToUndo) = some false)
    (q_BadRows_NothingToUndo : PySem.W.subIn K (.ref C_BadRows) (.ref C_NothingToUndo) = some false)
    (q_BadSystem_NothingToUndo : PySem.W.subIn K (.ref C_BadSystem) (.ref C_NothingToUndo) = some false)
    (q_BadRoot_NothingToUndo : PySem.W.subIn K (.ref C_BadRoot) (.ref C_NothingToUndo) = some false)
    (q_BadPaper_NothingToUndo : PySem.W.subIn K (.ref C_BadPaper) (.ref C_NothingToUndo) = some false)
    (q_NotKept_NothingToUndo : PySem.W.subIn K (.ref C_NotKept) (.ref C_NothingToUndo) = some false)
    (q_NothingToUndo_NothingToUndo : PySem.W.subIn K (.ref C_NothingToUndo) (.ref C_NothingToUndo) = some true)
    (q_NothingToRedo_NothingToUndo : PySem.W.subIn K (.ref C_NothingToRedo) (.ref C_NothingToUndo) = some false)
    (q_BadText_NothingToRedo : PySem.W.subIn K (.ref C_BadText) (.ref C_NothingToRedo) = some false)
    (q_BadNumber_NothingToRedo : PySem.W.subIn K (.ref C_BadNumber) (.ref C_NothingToRedo) = some false)
    (q_BadName_NothingToRedo : PySem.W.subIn K (.ref C_BadName) (.ref C_NothingToRedo) = some false)
    (q_NoName_NothingToRedo : PySem.W.subIn K (.ref C_NoName) (.ref C_NothingToRedo) = some false)
    (q_TakenName_NothingToRedo : PySem.W.subIn K (.ref C_TakenName) (.ref C_NothingToRedo) = some false)
    (q_BadWeb_NothingToRedo : PySem.W.subIn K (.ref C_BadWeb) (.ref C_NothingToRedo) = some false)
    (q_BadTable_NothingToRedo : PySem.W.subIn K (.ref C_BadTable) (.ref C_NothingToRedo) = some false)
    (q_BadRow_NothingToRedo : PySem.W.subIn K (.ref C_BadRow) (.ref C_NothingToRedo) = some false)
    (q_BadRows_NothingToRedo : PySem.W.subIn K (.ref C_BadRows) (.ref C_NothingToRedo) = some false)
    (q_BadSystem_NothingToRedo : PySem.W.subIn K (.ref C_BadSystem) (.ref C_NothingToRedo) = some false)
    (q_BadRoot_NothingToRedo : PySem.W.subIn K (.ref C_BadRoot) (.ref C_NothingToRedo) = some false)
    (q_BadPaper_NothingToRedo : PySem.W.subIn K (.ref C_BadPaper) (.ref C_NothingToRedo) = some false)
    (q_NotKept_NothingToRedo : PySem.W.subIn K (.ref C_NotKept) (.ref C_NothingToRedo) = some false)
    (q_NothingToUndo_NothingToRedo : PySem.W.subIn K (.ref C_NothingToUndo) (.ref C_NothingToRedo) = some false)
    (q_NothingToRedo_NothingToRedo : PySem.W.subIn K (.ref C_NothingToRedo) (.ref C_NothingToRedo) = some true)
    (gcO : PySem.W.specialIn K (.builtin "object.__class__") "__get__" = some (some (.builtin "getset_descriptor.__get__")))
    (tcO : PySem.W.takesIn K (.builtin "object.__class__") = some true)
    {f0 : Addr}
    (a0 : PySem.W.nsIn K mainGlobals "_law_pen" = some (some (.ref f0)))
    {od0 an0 : Option Addr} {sl0 : Array (Option Value)} {oc0 kV0 dc0 pm0 cd0 ct0 : Value}
    (l0 : K.lookup f0 = some ⟨oc0, od0, .func (PySem.W.fnOf "_law_pen" "_law_pen" (defArgs s_u_law_pen) (defBody s_u_law_pen) (defScope s_u_law_pen) .none kV0 dc0 pm0 an0 cd0 ct0), sl0⟩)
    (c0 : PySem.W.codeIn K cd0 "_law_pen" = true)
    (k0 : PySem.W.keepIn K (.ref f0) = true)
    {f1 : Addr}
    (a1 : PySem.W.nsIn K mainGlobals "_law_one" = some (some (.ref f1)))
    {od1 an1 : Option Addr} {sl1 : Array (Option Value)} {oc1 kV1 dc1 pm1 cd1 ct1 : Value}
    (l1 : K.lookup f1 = some ⟨oc1, od1, .func (PySem.W.fnOf "_law_one" "_law_one" (defArgs s_u_law_one) (defBody s_u_law_one) (defScope s_u_law_one) .none kV1 dc1 pm1 an1 cd1 ct1), sl1⟩)
    (c1 : PySem.W.codeIn K cd1 "_law_one" = true)
    (k1 : PySem.W.keepIn K (.ref f1) = true)
    {f2 : Addr}
    (a2 : PySem.W.nsIn K mainGlobals "_law_draw" = some (some (.ref f2)))
    {od2 an2 : Option Addr} {sl2 : Array (Option Value)} {oc2 kV2 dc2 pm2 cd2 ct2 : Value}
    (l2 : K.lookup f2 = some ⟨oc2, od2, .func (PySem.W.fnOf "_law_draw" "_law_draw" (defArgs s_u_law_draw) (defBody s_u_law_draw) (defScope s_u_law_draw) .none kV2 dc2 pm2 an2 cd2 ct2), sl2⟩)
    (c2 : PySem.W.codeIn K cd2 "_law_draw" = true)
    (k2 : PySem.W.keepIn K (.ref f2) = true)
    {f3 : Addr}
    (a3 : PySem.W.nsIn K mainGlobals "_law_pick" = some (some (.ref f3)))
    {od3 an3 : Option Addr} {sl3 : Array (Option Value)} {oc3 kV3 dc3 pm3 cd3 ct3 : Value}
    (l3 : K.lookup f3 = some ⟨oc3, od3, .func (PySem.W.fnOf "_law_pick" "_law_pick" (defArgs s_u_law_pick) (defBody s_u_law_pick) (defScope s_u_law_pick) .none kV3 dc3 pm3 an3 cd3 ct3), sl3⟩)
    (c3 : PySem.W.codeIn K cd3 "_law_pick" = true)
    (k3 : PySem.W.keepIn K (.ref f3) = true)
    {f4 : Addr}
    (a4 : PySem.W.nsIn K mainGlobals "_law_which" = some (some (.ref f4)))
    {od4 an4 : Option Addr} {sl4 : Array (Option Value)} {oc4 kV4 dc4 pm4 cd4 ct4 : Value}
    (l4 : K.lookup f4 = some ⟨oc4, od4, .func (PySem.W.fnOf "_law_which" "_law_which" (defArgs s_u_law_which) (defBody s_u_law_which) (defScope s_u_law_which) .none kV4 dc4 pm4 an4 cd4 ct4), sl4⟩)
    (c4 : PySem.W.codeIn K cd4 "_law_which" = true)
    (k4 : PySem.W.keepIn K (.ref f4) = true)
    {f5 : Addr}
    (a5 : PySem.W.nsIn K mainGlobals "law" = some (some (.ref f5)))
    {od5 an5 : Option Addr} {sl5 : Array (Option Value)} {oc5 kV5 dc5 pm5 cd5 ct5 : Value}
    (l5 : K.lookup f5 = some ⟨oc5, od5, .func (PySem.W.fnOf "law" "law" (defArgs s_law) (defBody s_law) (defScope s_law) .none kV5 dc5 pm5 an5 cd5 ct5), sl5⟩)
    (c5 : PySem.W.codeIn K cd5 "law" = true)
    (k5 : PySem.W.keepIn K (.ref f5) = true)
    (z_int : PySem.W.nsIn K mainGlobals "int" = some none)
    (z_list : PySem.W.nsIn K mainGlobals "list" = some none)
    (z_len : PySem.W.nsIn K mainGlobals "len" = some none)
    (z_isinstance : PySem.W.nsIn K mainGlobals "isinstance" = some none)
    (z_range : PySem.W.nsIn K mainGlobals "range" = some none)
    (z_repr : PySem.W.nsIn K mainGlobals "repr" = some none)
    (z_ValueError : PySem.W.nsIn K mainGlobals "ValueError" = some none) (hfa : mg "law" = some (.ref fa))
    : ∃ (fd : FuncData) (cl : Nat → Addr), (∀ (s : Shared) (u : Value), BindsTo s fd ⟨[u], []⟩ [("script", u)]) ∧ ∀ base : Heap, K.In base → base.Ns mainGlobals mg → FnG P w K mg base 4 fa fd ["script"] (spP K cl 1 d_law) := by
  have ef := hfa.symm.trans (PySem.W.mg_of X G a5)
  cases ef
  refine ⟨PySem.W.fnOf "law" "law" (defArgs s_law) (defBody s_law) (defScope s_law) .none kV5 dc5 pm5 an5 cd5 ct5, fun _ => 0, fun s v => .of_eq rfl, fun base _ _ => ?_⟩
  have y_int := PySem.W.mg_none_of X G z_int
  have y_list := PySem.W.mg_none_of X G z_list
  have y_len := PySem.W.mg_none_of X G z_len
  have y_isinstance := PySem.W.mg_none_of X G z_isinstance
  have y_range := PySem.W.mg_none_of X G z_range
  have y_repr := PySem.W.mg_none_of X G z_repr
  have y_ValueError := PySem.W.mg_none_of X G z_ValueError
  have FE10 := fun_mk (st := s_E_TakenName) l10 c10 k10
  have bE10 := FE10.binds (ps := ["self", "name"]) fun _ _ _ _ _ _ us hl => match us, hl with | [_, _], _ => rfl
  have E_TakenName : Exc P w K mg base "TakenName" ["name"] := exc1 (PySem.W.mg_of X G n_TakenName) n_TakenName ⟨⟨_, _, _, _, _, _, _, _, _, _, _, _, _, _, _, x_TakenName, rfl⟩, sa_TakenName, eC_TakenName, tC_TakenName, kC_TakenName⟩ i_TakenName ti_TakenName FE10 sc_E_TakenName rfl no_TakenName_name bE10 rfl rfl (by decide) (by decide) (fun _ => rfl)
  have FE9 := fun_mk (st := s_E_NoName) l9 c9 k9
  have bE9 := FE9.binds (ps := ["self", "name"]) fun _ _ _ _ _ _ us hl => match us, hl with | [_, _], _ => rfl
  have E_NoName : Exc P w K mg base "NoName" ["name"] := exc1 (PySem.W.mg_of X G n_NoName) n_NoName ⟨⟨_, _, _, _, _, _, _, _, _, _, _, _, _, _, _, x_NoName, rfl⟩, sa_NoName, eC_NoName, tC_NoName, kC_NoName⟩ i_NoName ti_NoName FE9 sc_E_NoName rfl no_NoName_name bE9 rfl rfl (by decide) (by decide) (fun _ => rfl)
  have FE8 := fun_mk (st := s_E_BadName) l8 c8 k8
  have bE8 := FE8.binds (ps := ["self", "name"]) fun _ _ _ _ _ _ us hl => match us, hl with | [_, _], _ => rfl
  have E_BadName : Exc P w K mg base "BadName" ["name"] := exc1 (PySem.W.mg_of X G n_BadName) n_BadName ⟨⟨_, _, _, _, _, _, _, _, _, _, _, _, _, _, _, x_BadName, rfl⟩, sa_BadName, eC_BadName, tC_BadName, kC_BadName⟩ i_BadName ti_BadName FE8 sc_E_BadName rfl no_BadName_name bE8 rfl rfl (by decide) (by decide) (fun _ => rfl)
  have FE11 := fun_mk (st := s_E_BadWeb) l11 c11 k11
  have bE11 := FE11.binds (ps := ["self", "web"]) fun _ _ _ _ _ _ us hl => match us, hl with | [_, _], _ => rfl
  have E_BadWeb : Exc P w K mg base "BadWeb" ["web"] := exc1 (PySem.W.mg_of X G n_BadWeb) n_BadWeb ⟨⟨_, _, _, _, _, _, _, _, _, _, _, _, _, _, _, x_BadWeb, rfl⟩, sa_BadWeb, eC_BadWeb, tC_BadWeb, kC_BadWeb⟩ i_BadWeb ti_BadWeb FE11 sc_E_BadWeb rfl no_BadWeb_web bE11 rfl rfl (by decide) (by decide) (fun _ => rfl)
  have FE12 := fun_mk (st := s_E_BadTable) l12 c12 k12
  have bE12 := FE12.binds (ps := ["self", "table"]) fun _ _ _ _ _ _ us hl => match us, hl with | [_, _], _ => rfl
  have E_BadTable : Exc P w K mg base "BadTable" ["table"] := exc1 (PySem.W.mg_of X G n_BadTable) n_BadTable ⟨⟨_, _, _, _, _, _, _, _, _, _, _, _, _, _, _, x_BadTable, rfl⟩, sa_BadTable, eC_BadTable, tC_BadTable, kC_BadTable⟩ i_BadTable ti_BadTable FE12 sc_E_BadTable rfl no_BadTable_table bE12 rfl rfl (by decide) (by decide) (fun _ => rfl)
  have FE13 := fun_mk (st := s_E_BadRow) l13 c13 k13
  have bE13 := FE13.binds (ps := ["self", "row"]) fun _ _ _ _ _ _ us hl => match us, hl with | [_, _], _ => rfl
  have E_BadRow : Exc P w K mg base "BadRow" ["row"] := exc1 (PySem.W.mg_of X G n_BadRow) n_BadRow ⟨⟨_, _, _, _, _, _, _, _, _, _, _, _, _, _, _, x_BadRow, rfl⟩, sa_BadRow, eC_BadRow, tC_BadRow, kC_BadRow⟩ i_BadRow ti_BadRow FE13 sc_E_BadRow rfl no_BadRow_row bE13 rfl rfl (by decide) (by decide) (fun _ => rfl)
  have FE14 := fun_mk (st := s_E_BadRows) l14 c14 k14
  have bE14 := FE14.binds (ps := ["self", "rows"]) fun _ _ _ _ _ _ us hl => match us, hl with | [_, _], _ => rfl
  have E_BadRows : Exc P w K mg base "BadRows" ["rows"] := exc1 (PySem.W.mg_of X G n_BadRows) n_BadRows ⟨⟨_, _, _, _, _, _, _, _, _, _, _, _, _, _, _, x_BadRows, rfl⟩, sa_BadRows, eC_BadRows, tC_BadRows, kC_BadRows⟩ i_BadRows ti_BadRows FE14 sc_E_BadRows rfl no_BadRows_rows bE14 rfl rfl (by decide) (by decide) (fun _ => rfl)
  have FE15 := fun_mk (st := s_E_BadSystem) l15 c15 k15
  have bE15 := FE15.binds (ps := ["self", "system"]) fun _ _ _ _ _ _ us hl => match us, hl with | [_, _], _ => rfl
  have E_BadSystem : Exc P w K mg base "BadSystem" ["system"] := exc1 (PySem.W.mg_of X G n_BadSystem) n_BadSystem ⟨⟨_, _, _, _, _, _, _, _, _, _, _, _, _, _, _, x_BadSystem, rfl⟩, sa_BadSystem, eC_BadSystem, tC_BadSystem, kC_BadSystem⟩ i_BadSystem ti_BadSystem FE15 sc_E_BadSystem rfl no_BadSystem_system bE15 rfl rfl (by decide) (by decide) (fun _ => rfl)
  have FE16 := fun_mk (st := s_E_BadRoot) l16 c16 k16
  have bE16 := FE16.binds (ps := ["self", "root"]) fun _ _ _ _ _ _ us hl => match us, hl with | [_, _], _ => rfl
  have E_BadRoot : Exc P w K mg base "BadRoot" ["root"] := exc1 (PySem.W.mg_of X G n_BadRoot) n_BadRoot ⟨⟨_, _, _, _, _, _, _, _, _, _, _, _, _, _, _, x_BadRoot, rfl⟩, sa_BadRoot, eC_BadRoot, tC_BadRoot, kC_BadRoot⟩ i_BadRoot ti_BadRoot FE16 sc_E_BadRoot rfl no_BadRoot_root bE16 rfl rfl (by decide) (by decide) (fun _ => rfl)
  have FE17 := fun_mk (st := s_E_BadPaper) l17 c17 k17
  have bE17 := FE17.binds (ps := ["self", "paper"]) fun _ _ _ _ _ _ us hl => match us, hl with | [_, _], _ => rfl
  have E_BadPaper : Exc P w K mg base "BadPaper" ["paper"] := exc1 (PySem.W.mg_of X G n_BadPaper) n_BadPaper ⟨⟨_, _, _, _, _, _, _, _, _, _, _, _, _, _, _, x_BadPaper, rfl⟩, sa_BadPaper, eC_BadPaper, tC_BadPaper, kC_BadPaper⟩ i_BadPaper ti_BadPaper FE17 sc_E_BadPaper rfl no_BadPaper_paper bE17 rfl rfl (by decide) (by decide) (fun _ => rfl)
  have FE6 := fun_mk (st := s_E_BadText) l6 c6 k6
  have bE6 := FE6.binds (ps := ["self", "line", "column"]) fun _ _ _ _ _ _ us hl => match us, hl with | [_, _, _], _ => rfl
  have E_BadText : Exc P w K mg base "BadText" ["line", "column"] := exc2 (PySem.W.mg_of X G n_BadText) n_BadText ⟨⟨_, _, _, _, _, _, _, _, _, _, _, _, _, _, _, x_BadText, rfl⟩, sa_BadText, eC_BadText, tC_BadText, kC_BadText⟩ i_BadText ti_BadText FE6 sc_E_BadText rfl no_BadText_line no_BadText_column bE6 rfl rfl rfl (by decide) (by decide) (by decide) (by decide) (fun _ => rfl) (fun _ => rfl)
  have FE7 := fun_mk (st := s_E_BadNumber) l7 c7 k7
  have bE7 := FE7.binds (ps := ["self", "what", "number"]) fun _ _ _ _ _ _ us hl => match us, hl with | [_, _, _], _ => rfl
  have E_BadNumber : Exc P w K mg base "BadNumber" ["what", "number"] := exc2 (PySem.W.mg_of X G n_BadNumber) n_BadNumber ⟨⟨_, _, _, _, _, _, _, _, _, _, _, _, _, _, _, x_BadNumber, rfl⟩, sa_BadNumber, eC_BadNumber, tC_BadNumber, kC_BadNumber⟩ i_BadNumber ti_BadNumber FE7 sc_E_BadNumber rfl no_BadNumber_what no_BadNumber_number bE7 rfl rfl rfl (by decide) (by decide) (by decide) (by decide) (fun _ => rfl) (fun _ => rfl)
  have FE18 := fun_mk (st := s_E_NotKept) l18 c18 k18
  have bE18 := FE18.binds (ps := ["self", "promise", "witness"]) fun _ _ _ _ _ _ us hl => match us, hl with | [_, _, _], _ => rfl
  have E_NotKept : Exc P w K mg base "NotKept" ["promise", "witness"] := exc2 (PySem.W.mg_of X G n_NotKept) n_NotKept ⟨⟨_, _, _, _, _, _, _, _, _, _, _, _, _, _, _, x_NotKept, rfl⟩, sa_NotKept, eC_NotKept, tC_NotKept, kC_NotKept⟩ i_NotKept ti_NotKept FE18 sc_E_NotKept rfl no_NotKept_promise no_NotKept_witness bE18 rfl rfl rfl (by decide) (by decide) (by decide) (by decide) (fun _ => rfl) (fun _ => rfl)
  have XA : ExcA K := by
    intro c C he hns
    simp only [excN, decide_eq_true_eq, List.mem_cons, List.not_mem_nil, or_false] at he
    rcases he with rfl | rfl | rfl | rfl | rfl | rfl | rfl | rfl | rfl | rfl | rfl | rfl | rfl | rfl | rfl
    · cases hns.symm.trans n_BadText; exact ⟨⟨ga_BadText, gg_BadText, eC_BadText, hd_BadText⟩, (by obtain ⟨cd, q, _⟩ := PySem.W.any_some hd_BadText; rw [q]; rfl), hc_BadText, gcO, tcO, mc_BadText⟩
    · cases hns.symm.trans n_BadNumber; exact ⟨⟨ga_BadNumber, gg_BadNumber, eC_BadNumber, hd_BadNumber⟩, (by obtain ⟨cd, q, _⟩ := PySem.W.any_some hd_BadNumber; rw [q]; rfl), hc_BadNumber, gcO, tcO, mc_BadNumber⟩
    · cases hns.symm.trans n_BadName; exact ⟨⟨ga_BadName, gg_BadName, eC_BadName, hd_BadName⟩, (by obtain ⟨cd, q, _⟩ := PySem.W.any_some hd_BadName; rw [q]; rfl), hc_BadName, gcO, tcO, mc_BadName⟩
    · cases hns.symm.trans n_NoName; exact ⟨⟨ga_NoName, gg_NoName, eC_NoName, hd_NoName⟩, (by obtain ⟨cd, q, _⟩ := PySem.W.any_some hd_NoName; rw [q]; rfl), hc_NoName, gcO, tcO, mc_NoName⟩
    · cases hns.symm.trans n_TakenName; exact ⟨⟨ga_TakenName, gg_TakenName, eC_TakenName, hd_TakenName⟩, (by obtain ⟨cd, q, _⟩ := PySem.W.any_some hd_TakenName; rw [q]; rfl), hc_TakenName, gcO, tcO, mc_TakenName⟩
    · cases hns.symm.trans n_BadWeb; exact ⟨⟨ga_BadWeb, gg_BadWeb, eC_BadWeb, hd_BadWeb⟩, (by obtain ⟨cd, q, _⟩ := PySem.W.any_some hd_BadWeb; rw [q]; rfl), hc_BadWeb, gcO, tcO, mc_BadWeb⟩
    · cases hns.symm.trans n_BadTable; exact ⟨⟨ga_BadTable, gg_BadTable, eC_BadTable, hd_BadTable⟩, (by obtain ⟨cd, q, _⟩ := PySem.W.any_some hd_BadTable; rw [q]; rfl), hc_BadTable, gcO, tcO, mc_BadTable⟩
    · cases hns.symm.trans n_BadRow; exact ⟨⟨ga_BadRow, gg_BadRow, eC_BadRow, hd_BadRow⟩, (by obtain ⟨cd, q, _⟩ := PySem.W.any_some hd_BadRow; rw [q]; rfl), hc_BadRow, gcO, tcO, mc_BadRow⟩
    · cases hns.symm.trans n_BadRows; exact ⟨⟨ga_BadRows, gg_BadRows, eC_BadRows, hd_BadRows⟩, (by obtain ⟨cd, q, _⟩ := PySem.W.any_some hd_BadRows; rw [q]; rfl), hc_BadRows, gcO, tcO, mc_BadRows⟩
    · cases hns.symm.trans n_BadSystem; exact ⟨⟨ga_BadSystem, gg_BadSystem, eC_BadSystem, hd_BadSystem⟩, (by obtain ⟨cd, q, _⟩ := PySem.W.any_some hd_BadSystem; rw [q]; rfl), hc_BadSystem, gcO, tcO, mc_BadSystem⟩
    · cases hns.symm.trans n_BadRoot; exact ⟨⟨ga_BadRoot, gg_BadRoot, eC_BadRoot, hd_BadRoot⟩, (by obtain ⟨cd, q, _⟩ := PySem.W.any_some hd_BadRoot; rw [q]; rfl), hc_BadRoot, gcO, tcO, mc_BadRoot⟩
    · cases hns.symm.trans n_BadPaper; exact ⟨⟨ga_BadPaper, gg_BadPaper, eC_BadPaper, hd_BadPaper⟩, (by obtain ⟨cd, q, _⟩ := PySem.W.any_some hd_BadPaper; rw [q]; rfl), hc_BadPaper, gcO, tcO, mc_BadPaper⟩
    · cases hns.symm.trans n_NotKept; exact ⟨⟨ga_NotKept, gg_NotKept, eC_NotKept, hd_NotKept⟩, (by obtain ⟨cd, q, _⟩ := PySem.W.any_some hd_NotKept; rw [q]; rfl), hc_NotKept, gcO, tcO, mc_NotKept⟩
    · cases hns.symm.trans n_NothingToUndo; exact ⟨⟨ga_NothingToUndo, gg_NothingToUndo, eC_NothingToUndo, hd_NothingToUndo⟩, (by obtain ⟨cd, q, _⟩ := PySem.W.any_some hd_NothingToUndo; rw [q]; rfl), hc_NothingToUndo, gcO, tcO, mc_NothingToUndo⟩
    · cases hns.symm.trans n_NothingToRedo; exact ⟨⟨ga_NothingToRedo, gg_NothingToRedo, eC_NothingToRedo, hd_NothingToRedo⟩, (by obtain ⟨cd, q, _⟩ := PySem.W.any_some hd_NothingToRedo; rw [q]; rfl), hc_NothingToRedo, gcO, tcO, mc_NothingToRedo⟩
  have XV : ExcV K := by
    intro c C he hns
    simp only [excN, decide_eq_true_eq, List.mem_cons, List.not_mem_nil, or_false] at he
    rcases he with rfl | rfl | rfl | rfl | rfl | rfl | rfl | rfl | rfl | rfl | rfl | rfl | rfl | rfl | rfl
    · cases hns.symm.trans n_BadText; exact kit_val vx_BadText
    · cases hns.symm.trans n_BadNumber; exact kit_val vx_BadNumber
    · cases hns.symm.trans n_BadName; exact kit_val vx_BadName
    · cases hns.symm.trans n_NoName; exact kit_val vx_NoName
    · cases hns.symm.trans n_TakenName; exact kit_val vx_TakenName
    · cases hns.symm.trans n_BadWeb; exact kit_val vx_BadWeb
    · cases hns.symm.trans n_BadTable; exact kit_val vx_BadTable
    · cases hns.symm.trans n_BadRow; exact kit_val vx_BadRow
    · cases hns.symm.trans n_BadRows; exact kit_val vx_BadRows
    · cases hns.symm.trans n_BadSystem; exact kit_val vx_BadSystem
    · cases hns.symm.trans n_BadRoot; exact kit_val vx_BadRoot
    · cases hns.symm.trans n_BadPaper; exact kit_val vx_BadPaper
    · cases hns.symm.trans n_NotKept; exact kit_val vx_NotKept
    · cases hns.symm.trans n_NothingToUndo; exact kit_val vx_NothingToUndo
    · cases hns.symm.trans n_NothingToRedo; exact kit_val vx_NothingToRedo
  have XI_LineError : ExcI K mg "LineError" := by
    refine ⟨_, PySem.W.mg_of X G n_LineError, ?_⟩
    intro c C he hns
    simp only [excN, decide_eq_true_eq, List.mem_cons, List.not_mem_nil, or_false] at he
    rcases he with rfl | rfl | rfl | rfl | rfl | rfl | rfl | rfl | rfl | rfl | rfl | rfl | rfl | rfl | rfl
    · cases hns.symm.trans n_BadText; exact kit_cls ic_LineError tC_LineError q_LineError_LineError q_BadText_LineError
    · cases hns.symm.trans n_BadNumber; exact kit_cls ic_LineError tC_LineError q_LineError_LineError q_BadNumber_LineError
    · cases hns.symm.trans n_BadName; exact kit_cls ic_LineError tC_LineError q_LineError_LineError q_BadName_LineError
    · cases hns.symm.trans n_NoName; exact kit_cls ic_LineError tC_LineError q_LineError_LineError q_NoName_LineError
    · cases hns.symm.trans n_TakenName; exact kit_cls ic_LineError tC_LineError q_LineError_LineError q_TakenName_LineError
    · cases hns.symm.trans n_BadWeb; exact kit_cls ic_LineError tC_LineError q_LineError_LineError q_BadWeb_LineError
    · cases hns.symm.trans n_BadTable; exact kit_cls ic_LineError tC_LineError q_LineError_LineError q_BadTable_LineError
    · cases hns.symm.trans n_BadRow; exact kit_cls ic_LineError tC_LineError q_LineError_LineError q_BadRow_LineError
    · cases hns.symm.trans n_BadRows; exact kit_cls ic_LineError tC_LineError q_LineError_LineError q_BadRows_LineError
    · cases hns.symm.trans n_BadSystem; exact kit_cls ic_LineError tC_LineError q_LineError_LineError q_BadSystem_LineError
    · cases hns.symm.trans n_BadRoot; exact kit_cls ic_LineError tC_LineError q_LineError_LineError q_BadRoot_LineError
    · cases hns.symm.trans n_BadPaper; exact kit_cls ic_LineError tC_LineError q_LineError_LineError q_BadPaper_LineError
    · cases hns.symm.trans n_NotKept; exact kit_cls ic_LineError tC_LineError q_LineError_LineError q_NotKept_LineError
    · cases hns.symm.trans n_NothingToUndo; exact kit_cls ic_LineError tC_LineError q_LineError_LineError q_NothingToUndo_LineError
    · cases hns.symm.trans n_NothingToRedo; exact kit_cls ic_LineError tC_LineError q_LineError_LineError q_NothingToRedo_LineError
  have XI_BadText : ExcI K mg "BadText" := by
    refine ⟨_, PySem.W.mg_of X G n_BadText, ?_⟩
    intro c C he hns
    simp only [excN, decide_eq_true_eq, List.mem_cons, List.not_mem_nil, or_false] at he
    rcases he with rfl | rfl | rfl | rfl | rfl | rfl | rfl | rfl | rfl | rfl | rfl | rfl | rfl | rfl | rfl
    · cases hns.symm.trans n_BadText; exact kit_cls ic_BadText tC_BadText q_BadText_BadText q_BadText_BadText
    · cases hns.symm.trans n_BadNumber; exact kit_cls ic_BadText tC_BadText q_BadText_BadText q_BadNumber_BadText
    · cases hns.symm.trans n_BadName; exact kit_cls ic_BadText tC_BadText q_BadText_BadText q_BadName_BadText
    · cases hns.symm.trans n_NoName; exact kit_cls ic_BadText tC_BadText q_BadText_BadText q_NoName_BadText
    · cases hns.symm.trans n_TakenName; exact kit_cls ic_BadText tC_BadText q_BadText_BadText q_TakenName_BadText
    · cases hns.symm.trans n_BadWeb; exact kit_cls ic_BadText tC_BadText q_BadText_BadText q_BadWeb_BadText
    · cases hns.symm.trans n_BadTable; exact kit_cls ic_BadText tC_BadText q_BadText_BadText q_BadTable_BadText
    · cases hns.symm.trans n_BadRow; exact kit_cls ic_BadText tC_BadText q_BadText_BadText q_BadRow_BadText
    · cases hns.symm.trans n_BadRows; exact kit_cls ic_BadText tC_BadText q_BadText_BadText q_BadRows_BadText
    · cases hns.symm.trans n_BadSystem; exact kit_cls ic_BadText tC_BadText q_BadText_BadText q_BadSystem_BadText
    · cases hns.symm.trans n_BadRoot; exact kit_cls ic_BadText tC_BadText q_BadText_BadText q_BadRoot_BadText
    · cases hns.symm.trans n_BadPaper; exact kit_cls ic_BadText tC_BadText q_BadText_BadText q_BadPaper_BadText
    · cases hns.symm.trans n_NotKept; exact kit_cls ic_BadText tC_BadText q_BadText_BadText q_NotKept_BadText
    · cases hns.symm.trans n_NothingToUndo; exact kit_cls ic_BadText tC_BadText q_BadText_BadText q_NothingToUndo_BadText
    · cases hns.symm.trans n_NothingToRedo; exact kit_cls ic_BadText tC_BadText q_BadText_BadText q_NothingToRedo_BadText
  have XI_BadNumber : ExcI K mg "BadNumber" := by
    refine ⟨_, PySem.W.mg_of X G n_BadNumber, ?_⟩
    intro c C he hns
    simp only [excN, decide_eq_true_eq, List.mem_cons, List.not_mem_nil, or_false] at he
    rcases he with rfl | rfl | rfl | rfl | rfl | rfl | rfl | rfl | rfl | rfl | rfl | rfl | rfl | rfl | rfl
    · cases hns.symm.trans n_BadText; exact kit_cls ic_BadNumber tC_BadNumber q_BadNumber_BadNumber q_BadText_BadNumber
    · cases hns.symm.trans n_BadNumber; exact kit_cls ic_BadNumber tC_BadNumber q_BadNumber_BadNumber q_BadNumber_BadNumber
    · cases hns.symm.trans n_BadName; exact kit_cls ic_BadNumber tC_BadNumber q_BadNumber_BadNumber q_BadName_BadNumber
    · cases hns.symm.trans n_NoName; exact kit_cls ic_BadNumber tC_BadNumber q_BadNumber_BadNumber q_NoName_BadNumber
    · cases hns.symm.trans n_TakenName; exact kit_cls ic_BadNumber tC_BadNumber q_BadNumber_BadNumber q_TakenName_BadNumber
    · cases hns.symm.trans n_BadWeb; exact kit_cls ic_BadNumber tC_BadNumber q_BadNumber_BadNumber q_BadWeb_BadNumber
    · cases hns.symm.trans n_BadTable; exact kit_cls ic_BadNumber tC_BadNumber q_BadNumber_BadNumber q_BadTable_BadNumber
    · cases hns.symm.trans n_BadRow; exact kit_cls ic_BadNumber tC_BadNumber q_BadNumber_BadNumber q_BadRow_BadNumber
    · cases hns.symm.trans n_BadRows; exact kit_cls ic_BadNumber tC_BadNumber q_BadNumber_BadNumber q_BadRows_BadNumber
    · cases hns.symm.trans n_BadSystem; exact kit_cls ic_BadNumber tC_BadNumber q_BadNumber_BadNumber q_BadSystem_BadNumber
    · cases hns.symm.trans n_BadRoot; exact kit_cls ic_BadNumber tC_BadNumber q_BadNumber_BadNumber q_BadRoot_BadNumber
    · cases hns.symm.trans n_BadPaper; exact kit_cls ic_BadNumber tC_BadNumber q_BadNumber_BadNumber q_BadPaper_BadNumber
    · cases hns.symm.trans n_NotKept; exact kit_cls ic_BadNumber tC_BadNumber q_BadNumber_BadNumber q_NotKept_BadNumber
    · cases hns.symm.trans n_NothingToUndo; exact kit_cls ic_BadNumber tC_BadNumber q_BadNumber_BadNumber q_NothingToUndo_BadNumber
    · cases hns.symm.trans n_NothingToRedo; exact kit_cls ic_BadNumber tC_BadNumber q_BadNumber_BadNumber q_NothingToRedo_BadNumber
  have XI_BadName : ExcI K mg "BadName" := by
    refine ⟨_, PySem.W.mg_of X G n_BadName, ?_⟩
    intro c C he hns
    simp only [excN, decide_eq_true_eq, List.mem_cons, List.not_mem_nil, or_false] at he
    rcases he with rfl | rfl | rfl | rfl | rfl | rfl | rfl | rfl | rfl | rfl | rfl | rfl | rfl | rfl | rfl
    · cases hns.symm.trans n_BadText; exact kit_cls ic_BadName tC_BadName q_BadName_BadName q_BadText_BadName
    · cases hns.symm.trans n_BadNumber; exact kit_cls ic_BadName tC_BadName q_BadName_BadName q_BadNumber_BadName
    · cases hns.symm.trans n_BadName; exact kit_cls ic_BadName tC_BadName q_BadName_BadName q_BadName_BadName
    · cases hns.symm.trans n_NoName; exact kit_cls ic_BadName tC_BadName q_BadName_BadName q_NoName_BadName
    · cases hns.symm.trans n_TakenName; exact kit_cls ic_BadName tC_BadName q_BadName_BadName q_TakenName_BadName
    · cases hns.symm.trans n_BadWeb; exact kit_cls ic_BadName tC_BadName q_BadName_BadName q_BadWeb_BadName
    · cases hns.symm.trans n_BadTable; exact kit_cls ic_BadName tC_BadName q_BadName_BadName q_BadTable_BadName
    · cases hns.symm.trans n_BadRow; exact kit_cls ic_BadName tC_BadName q_BadName_BadName q_BadRow_BadName
    · cases hns.symm.trans n_BadRows; exact kit_cls ic_BadName tC_BadName q_BadName_BadName q_BadRows_BadName
    · cases hns.symm.trans n_BadSystem; exact kit_cls ic_BadName tC_BadName q_BadName_BadName q_BadSystem_BadName
    · cases hns.symm.trans n_BadRoot; exact kit_cls ic_BadName tC_BadName q_BadName_BadName q_BadRoot_BadName
    · cases hns.symm.trans n_BadPaper; exact kit_cls ic_BadName tC_BadName q_BadName_BadName q_BadPaper_BadName
    · cases hns.symm.trans n_NotKept; exact kit_cls ic_BadName tC_BadName q_BadName_BadName q_NotKept_BadName
    · cases hns.symm.trans n_NothingToUndo; exact kit_cls ic_BadName tC_BadName q_BadName_BadName q_NothingToUndo_BadName
    · cases hns.symm.trans n_NothingToRedo; exact kit_cls ic_BadName tC_BadName q_BadName_BadName q_NothingToRedo_BadName
  have XI_NoName : ExcI K mg "NoName" := by
    refine ⟨_, PySem.W.mg_of X G n_NoName, ?_⟩
    intro c C he hns
    simp only [excN, decide_eq_true_eq, List.mem_cons, List.not_mem_nil, or_false] at he
    rcases he with rfl | rfl | rfl | rfl | rfl | rfl | rfl | rfl | rfl | rfl | rfl | rfl | rfl | rfl | rfl
    · cases hns.symm.trans n_BadText; exact kit_cls ic_NoName tC_NoName q_NoName_NoName q_BadText_NoName
    · cases hns.symm.trans n_BadNumber; exact kit_cls ic_NoName tC_NoName q_NoName_NoName q_BadNumber_NoName
    · cases hns.symm.trans n_BadName; exact kit_cls ic_NoName tC_NoName q_NoName_NoName q_BadName_NoName
    · cases hns.symm.trans n_NoName; exact kit_cls ic_NoName tC_NoName q_NoName_NoName q_NoName_NoName
    · cases hns.symm.trans n_TakenName; exact kit_cls ic_NoName tC_NoName q_NoName_NoName q_TakenName_NoName
    · cases hns.symm.trans n_BadWeb; exact kit_cls ic_NoName tC_NoName q_NoName_NoName q_BadWeb_NoName
    · cases hns.symm.trans n_BadTable; exact kit_cls ic_NoName tC_NoName q_NoName_NoName q_BadTable_NoName
    · cases hns.symm.trans n_BadRow; exact kit_cls ic_NoName tC_NoName q_NoName_NoName q_BadRow_NoName
    · cases hns.symm.trans n_BadRows; exact kit_cls ic_NoName tC_NoName q_NoName_NoName q_BadRows_NoName
    · cases hns.symm.trans n_BadSystem; exact kit_cls ic_NoName tC_NoName q_NoName_NoName q_BadSystem_NoName
    · cases hns.symm.trans n_BadRoot; exact kit_cls ic_NoName tC_NoName q_NoName_NoName q_BadRoot_NoName
    · cases hns.symm.trans n_BadPaper; exact kit_cls ic_NoName tC_NoName q_NoName_NoName q_BadPaper_NoName
    · cases hns.symm.trans n_NotKept; exact kit_cls ic_NoName tC_NoName q_NoName_NoName q_NotKept_NoName
    · cases hns.symm.trans n_NothingToUndo; exact kit_cls ic_NoName tC_NoName q_NoName_NoName q_NothingToUndo_NoName
    · cases hns.symm.trans n_NothingToRedo; exact kit_cls ic_NoName tC_NoName q_NoName_NoName q_NothingToRedo_NoName
  have XI_TakenName : ExcI K mg "TakenName" := by
    refine ⟨_, PySem.W.mg_of X G n_TakenName, ?_⟩
    intro c C he hns
    simp only [excN, decide_eq_true_eq, List.mem_cons, List.not_mem_nil, or_false] at he
    rcases he with rfl | rfl | rfl | rfl | rfl | rfl | rfl | rfl | rfl | rfl | rfl | rfl | rfl | rfl | rfl
    · cases hns.symm.trans n_BadText; exact kit_cls ic_TakenName tC_TakenName q_TakenName_TakenName q_BadText_TakenName
    · cases hns.symm.trans n_BadNumber; exact kit_cls ic_TakenName tC_TakenName q_TakenName_TakenName q_BadNumber_TakenName
    · cases hns.symm.trans n_BadName; exact kit_cls ic_TakenName tC_TakenName q_TakenName_TakenName q_BadName_TakenName
    · cases hns.symm.trans n_NoName; exact kit_cls ic_TakenName tC_TakenName q_TakenName_TakenName q_NoName_TakenName
    · cases hns.symm.trans n_TakenName; exact kit_cls ic_TakenName tC_TakenName q_TakenName_TakenName q_TakenName_TakenName
    · cases hns.symm.trans n_BadWeb; exact kit_cls ic_TakenName tC_TakenName q_TakenName_TakenName q_BadWeb_TakenName
    · cases hns.symm.trans n_BadTable; exact kit_cls ic_TakenName tC_TakenName q_TakenName_TakenName q_BadTable_TakenName
    · cases hns.symm.trans n_BadRow; exact kit_cls ic_TakenName tC_TakenName q_TakenName_TakenName q_BadRow_TakenName
    · cases hns.symm.trans n_BadRows; exact kit_cls ic_TakenName tC_TakenName q_TakenName_TakenName q_BadRows_TakenName
    · cases hns.symm.trans n_BadSystem; exact kit_cls ic_TakenName tC_TakenName q_TakenName_TakenName q_BadSystem_TakenName
    · cases hns.symm.trans n_BadRoot; exact kit_cls ic_TakenName tC_TakenName q_TakenName_TakenName q_BadRoot_TakenName
    · cases hns.symm.trans n_BadPaper; exact kit_cls ic_TakenName tC_TakenName q_TakenName_TakenName q_BadPaper_TakenName
    · cases hns.symm.trans n_NotKept; exact kit_cls ic_TakenName tC_TakenName q_TakenName_TakenName q_NotKept_TakenName
    · cases hns.symm.trans n_NothingToUndo; exact kit_cls ic_TakenName tC_TakenName q_TakenName_TakenName q_NothingToUndo_TakenName
    · cases hns.symm.trans n_NothingToRedo; exact kit_cls ic_TakenName tC_TakenName q_TakenName_TakenName q_NothingToRedo_TakenName
  have XI_BadWeb : ExcI K mg "BadWeb" := by
    refine ⟨_, PySem.W.mg_of X G n_BadWeb, ?_⟩
    intro c C he hns
    simp only [excN, decide_eq_true_eq, List.mem_cons, List.not_mem_nil, or_false] at he
    rcases he with rfl | rfl | rfl | rfl | rfl | rfl | rfl | rfl | rfl | rfl | rfl | rfl | rfl | rfl | rfl
    · cases hns.symm.trans n_BadText; exact kit_cls ic_BadWeb tC_BadWeb q_BadWeb_BadWeb q_BadText_BadWeb
    · cases hns.symm.trans n_BadNumber; exact kit_cls ic_BadWeb tC_BadWeb q_BadWeb_BadWeb q_BadNumber_BadWeb
    · cases hns.symm.trans n_BadName; exact kit_cls ic_BadWeb tC_BadWeb q_BadWeb_BadWeb q_BadName_BadWeb
    · cases hns.symm.trans n_NoName; exact kit_cls ic_BadWeb tC_BadWeb q_BadWeb_BadWeb q_NoName_BadWeb
    · cases hns.symm.trans n_TakenName; exact kit_cls ic_BadWeb tC_BadWeb q_BadWeb_BadWeb q_TakenName_BadWeb
    · cases hns.symm.trans n_BadWeb; exact kit_cls ic_BadWeb tC_BadWeb q_BadWeb_BadWeb q_BadWeb_BadWeb
    · cases hns.symm.trans n_BadTable; exact kit_cls ic_BadWeb tC_BadWeb q_BadWeb_BadWeb q_BadTable_BadWeb
    · cases hns.symm.trans n_BadRow; exact kit_cls ic_BadWeb tC_BadWeb q_BadWeb_BadWeb q_BadRow_BadWeb
    · cases hns.symm.trans n_BadRows; exact kit_cls ic_BadWeb tC_BadWeb q_BadWeb_BadWeb q_BadRows_BadWeb
    · cases hns.symm.trans n_BadSystem; exact kit_cls ic_BadWeb tC_BadWeb q_BadWeb_BadWeb q_BadSystem_BadWeb
    · cases hns.symm.trans n_BadRoot; exact kit_cls ic_BadWeb tC_BadWeb q_BadWeb_BadWeb q_BadRoot_BadWeb
    · cases hns.symm.trans n_BadPaper; exact kit_cls ic_BadWeb tC_BadWeb q_BadWeb_BadWeb q_BadPaper_BadWeb
    · cases hns.symm.trans n_NotKept; exact kit_cls ic_BadWeb tC_BadWeb q_BadWeb_BadWeb q_NotKept_BadWeb
    · cases hns.symm.trans n_NothingToUndo; exact kit_cls ic_BadWeb tC_BadWeb q_BadWeb_BadWeb q_NothingToUndo_BadWeb
    · cases hns.symm.trans n_NothingToRedo; exact kit_cls ic_BadWeb tC_BadWeb q_BadWeb_BadWeb q_NothingToRedo_BadWeb
  have XI_BadTable : ExcI K mg "BadTable" := by
    refine ⟨_, PySem.W.mg_of X G n_BadTable, ?_⟩
    intro c C he hns
    simp only [excN, decide_eq_true_eq, List.mem_cons, List.not_mem_nil, or_false] at he
    rcases he with rfl | rfl | rfl | rfl | rfl | rfl | rfl | rfl | rfl | rfl | rfl | rfl | rfl | rfl | rfl
    · cases hns.symm.trans n_BadText; exact kit_cls ic_BadTable tC_BadTable q_BadTable_BadTable q_BadText_BadTable
    · cases hns.symm.trans n_BadNumber; exact kit_cls ic_BadTable tC_BadTable q_BadTable_BadTable q_BadNumber_BadTable
    · cases hns.symm.trans n_BadName; exact kit_cls ic_BadTable tC_BadTable q_BadTable_BadTable q_BadName_BadTable
    · cases hns.symm.trans n_NoName; exact kit_cls ic_BadTable tC_BadTable q_BadTable_BadTable q_NoName_BadTable
    · cases hns.symm.trans n_TakenName; exact kit_cls ic_BadTable tC_BadTable q_BadTable_BadTable q_TakenName_BadTable
    · cases hns.symm.trans n_BadWeb; exact kit_cls ic_BadTable tC_BadTable q_BadTable_BadTable q_BadWeb_BadTable
    · cases hns.symm.trans n_BadTable; exact kit_cls ic_BadTable tC_BadTable q_BadTable_BadTable q_BadTable_BadTable
    · cases hns.symm.trans n_BadRow; exact kit_cls ic_BadTable tC_BadTable q_BadTable_BadTable q_BadRow_BadTable
    · cases hns.symm.trans n_BadRows; exact kit_cls ic_BadTable tC_BadTable q_BadTable_BadTable q_BadRows_BadTable
    · cases hns.symm.trans n_BadSystem; exact kit_cls ic_BadTable tC_BadTable q_BadTable_BadTable q_BadSystem_BadTable
    · cases hns.symm.trans n_BadRoot; exact kit_cls ic_BadTable tC_BadTable q_BadTable_BadTable q_BadRoot_BadTable
    · cases hns.symm.trans n_BadPaper; exact kit_cls ic_BadTable tC_BadTable q_BadTable_BadTable q_BadPaper_BadTable
    · cases hns.symm.trans n_NotKept; exact kit_cls ic_BadTable tC_BadTable q_BadTable_BadTable q_NotKept_BadTable
    · cases hns.symm.trans n_NothingToUndo; exact kit_cls ic_BadTable tC_BadTable q_BadTable_BadTable q_NothingToUndo_BadTable
    · cases hns.symm.trans n_NothingToRedo; exact kit_cls ic_BadTable tC_BadTable q_BadTable_BadTable q_NothingToRedo_BadTable
  have XI_BadRow : ExcI K mg "BadRow" := by
    refine ⟨_, PySem.W.mg_of X G n_BadRow, ?_⟩
    intro c C he hns
    simp only [excN, decide_eq_true_eq, List.mem_cons, List.not_mem_nil, or_false] at he
    rcases he with rfl | rfl | rfl | rfl | rfl | rfl | rfl | rfl | rfl | rfl | rfl | rfl | rfl | rfl | rfl
    · cases hns.symm.trans n_BadText; exact kit_cls ic_BadRow tC_BadRow q_BadRow_BadRow q_BadText_BadRow
    · cases hns.symm.trans n_BadNumber; exact kit_cls ic_BadRow tC_BadRow q_BadRow_BadRow q_BadNumber_BadRow
    · cases hns.symm.trans n_BadName; exact kit_cls ic_BadRow tC_BadRow q_BadRow_BadRow q_BadName_BadRow
    · cases hns.symm.trans n_NoName; exact kit_cls ic_BadRow tC_BadRow q_BadRow_BadRow q_NoName_BadRow
    · cases hns.symm.trans n_TakenName; exact kit_cls ic_BadRow tC_BadRow q_BadRow_BadRow q_TakenName_BadRow
    · cases hns.symm.trans n_BadWeb; exact kit_cls ic_BadRow tC_BadRow q_BadRow_BadRow q_BadWeb_BadRow
    · cases hns.symm.trans n_BadTable; exact kit_cls ic_BadRow tC_BadRow q_BadRow_BadRow q_BadTable_BadRow
    · cases hns.symm.trans n_BadRow; exact kit_cls ic_BadRow tC_BadRow q_BadRow_BadRow q_BadRow_BadRow
    · cases hns.symm.trans n_BadRows; exact kit_cls ic_BadRow tC_BadRow q_BadRow_BadRow q_BadRows_BadRow
    · cases hns.symm.trans n_BadSystem; exact kit_cls ic_BadRow tC_BadRow q_BadRow_BadRow q_BadSystem_BadRow
    · cases hns.symm.trans n_BadRoot; exact kit_cls ic_BadRow tC_BadRow q_BadRow_BadRow q_BadRoot_BadRow
    · cases hns.symm.trans n_BadPaper; exact kit_cls ic_BadRow tC_BadRow q_BadRow_BadRow q_BadPaper_BadRow
    · cases hns.symm.trans n_NotKept; exact kit_cls ic_BadRow tC_BadRow q_BadRow_BadRow q_NotKept_BadRow
    · cases hns.symm.trans n_NothingToUndo; exact kit_cls ic_BadRow tC_BadRow q_BadRow_BadRow q_NothingToUndo_BadRow
    · cases hns.symm.trans n_NothingToRedo; exact kit_cls ic_BadRow tC_BadRow q_BadRow_BadRow q_NothingToRedo_BadRow
  have XI_BadRows : ExcI K mg "BadRows" := by
    refine ⟨_, PySem.W.mg_of X G n_BadRows, ?_⟩
    intro c C he hns
    simp only [excN, decide_eq_true_eq, List.mem_cons, List.not_mem_nil, or_false] at he
    rcases he with rfl | rfl | rfl | rfl | rfl | rfl | rfl | rfl | rfl | rfl | rfl | rfl | rfl | rfl | rfl
    · cases hns.symm.trans n_BadText; exact kit_cls ic_BadRows tC_BadRows q_BadRows_BadRows q_BadText_BadRows
    · cases hns.symm.trans n_BadNumber; exact kit_cls ic_BadRows tC_BadRows q_BadRows_BadRows q_BadNumber_BadRows
    · cases hns.symm.trans n_BadName; exact kit_cls ic_BadRows tC_BadRows q_BadRows_BadRows q_BadName_BadRows
    · cases hns.symm.trans n_NoName; exact kit_cls ic_BadRows tC_BadRows q_BadRows_BadRows q_NoName_BadRows
    · cases hns.symm.trans n_TakenName; exact kit_cls ic_BadRows tC_BadRows q_BadRows_BadRows q_TakenName_BadRows
    · cases hns.symm.trans n_BadWeb; exact kit_cls ic_BadRows tC_BadRows q_BadRows_BadRows q_BadWeb_BadRows
    · cases hns.symm.trans n_BadTable; exact kit_cls ic_BadRows tC_BadRows q_BadRows_BadRows q_BadTable_BadRows
    · cases hns.symm.trans n_BadRow; exact kit_cls ic_BadRows tC_BadRows q_BadRows_BadRows q_BadRow_BadRows
    · cases hns.symm.trans n_BadRows; exact kit_cls ic_BadRows tC_BadRows q_BadRows_BadRows q_BadRows_BadRows
    · cases hns.symm.trans n_BadSystem; exact kit_cls ic_BadRows tC_BadRows q_BadRows_BadRows q_BadSystem_BadRows
    · cases hns.symm.trans n_BadRoot; exact kit_cls ic_BadRows tC_BadRows q_BadRows_BadRows q_BadRoot_BadRows
    · cases hns.symm.trans n_BadPaper; exact kit_cls ic_BadRows tC_BadRows q_BadRows_BadRows q_BadPaper_BadRows
    · cases hns.symm.trans n_NotKept; exact kit_cls ic_BadRows tC_BadRows q_BadRows_BadRows q_NotKept_BadRows
    · cases hns.symm.trans n_NothingToUndo; exact kit_cls ic_BadRows tC_BadRows q_BadRows_BadRows q_NothingToUndo_BadRows
    · cases hns.symm.trans n_NothingToRedo; exact kit_cls ic_BadRows tC_BadRows q_BadRows_BadRows q_NothingToRedo_BadRows
  have XI_BadSystem : ExcI K mg "BadSystem" := by
    refine ⟨_, PySem.W.mg_of X G n_BadSystem, ?_⟩
    intro c C he hns
    simp only [excN, decide_eq_true_eq, List.mem_cons, List.not_mem_nil, or_false] at he
    rcases he with rfl | rfl | rfl | rfl | rfl | rfl | rfl | rfl | rfl | rfl | rfl | rfl | rfl | rfl | rfl
    · cases hns.symm.trans n_BadText; exact kit_cls ic_BadSystem tC_BadSystem q_BadSystem_BadSystem q_BadText_BadSystem
    · cases hns.symm.trans n_BadNumber; exact kit_cls ic_BadSystem tC_BadSystem q_BadSystem_BadSystem q_BadNumber_BadSystem
    · cases hns.symm.trans n_BadName; exact kit_cls ic_BadSystem tC_BadSystem q_BadSystem_BadSystem q_BadName_BadSystem
    · cases hns.symm.trans n_NoName; exact kit_cls ic_BadSystem tC_BadSystem q_BadSystem_BadSystem q_NoName_BadSystem
    · cases hns.symm.trans n_TakenName; exact kit_cls ic_BadSystem tC_BadSystem q_BadSystem_BadSystem q_TakenName_BadSystem
    · cases hns.symm.trans n_BadWeb; exact kit_cls ic_BadSystem tC_BadSystem q_BadSystem_BadSystem q_BadWeb_BadSystem
    · cases hns.symm.trans n_BadTable; exact kit_cls ic_BadSystem tC_BadSystem q_BadSystem_BadSystem q_BadTable_BadSystem
    · cases hns.symm.trans n_BadRow; exact kit_cls ic_BadSystem tC_BadSystem q_BadSystem_BadSystem q_BadRow_BadSystem
    · cases hns.symm.trans n_BadRows; exact kit_cls ic_BadSystem tC_BadSystem q_BadSystem_BadSystem q_BadRows_BadSystem
    · cases hns.symm.trans n_BadSystem; exact kit_cls ic_BadSystem tC_BadSystem q_BadSystem_BadSystem q_BadSystem_BadSystem
    · cases hns.symm.trans n_BadRoot; exact kit_cls ic_BadSystem tC_BadSystem q_BadSystem_BadSystem q_BadRoot_BadSystem
    · cases hns.symm.trans n_BadPaper; exact kit_cls ic_BadSystem tC_BadSystem q_BadSystem_BadSystem q_BadPaper_BadSystem
    · cases hns.symm.trans n_NotKept; exact kit_cls ic_BadSystem tC_BadSystem q_BadSystem_BadSystem q_NotKept_BadSystem
    · cases hns.symm.trans n_NothingToUndo; exact kit_cls ic_BadSystem tC_BadSystem q_BadSystem_BadSystem q_NothingToUndo_BadSystem
    · cases hns.symm.trans n_NothingToRedo; exact kit_cls ic_BadSystem tC_BadSystem q_BadSystem_BadSystem q_NothingToRedo_BadSystem
  have XI_BadRoot : ExcI K mg "BadRoot" := by
    refine ⟨_, PySem.W.mg_of X G n_BadRoot, ?_⟩
    intro c C he hns
    simp only [excN, decide_eq_true_eq, List.mem_cons, List.not_mem_nil, or_false] at he
    rcases he with rfl | rfl | rfl | rfl | rfl | rfl | rfl | rfl | rfl | rfl | rfl | rfl | rfl | rfl | rfl
    · cases hns.symm.trans n_BadText; exact kit_cls ic_BadRoot tC_BadRoot q_BadRoot_BadRoot q_BadText_BadRoot
    · cases hns.symm.trans n_BadNumber; exact kit_cls ic_BadRoot tC_BadRoot q_BadRoot_BadRoot q_BadNumber_BadRoot
    · cases hns.symm.trans n_BadName; exact kit_cls ic_BadRoot tC_BadRoot q_BadRoot_BadRoot q_BadName_BadRoot
    · cases hns.symm.trans n_NoName; exact kit_cls ic_BadRoot tC_BadRoot q_BadRoot_BadRoot q_NoName_BadRoot
    · cases hns.symm.trans n_TakenName; exact kit_cls ic_BadRoot tC_BadRoot q_BadRoot_BadRoot q_TakenName_BadRoot
    · cases hns.symm.trans n_BadWeb; exact kit_cls ic_BadRoot tC_BadRoot q_BadRoot_BadRoot q_BadWeb_BadRoot
    · cases hns.symm.trans n_BadTable; exact kit_cls ic_BadRoot tC_BadRoot q_BadRoot_BadRoot q_BadTable_BadRoot
    · cases hns.symm.trans n_BadRow; exact kit_cls ic_BadRoot tC_BadRoot q_BadRoot_BadRoot q_BadRow_BadRoot
    · cases hns.symm.trans n_BadRows; exact kit_cls ic_BadRoot tC_BadRoot q_BadRoot_BadRoot q_BadRows_BadRoot
    · cases hns.symm.trans n_BadSystem; exact kit_cls ic_BadRoot tC_BadRoot q_BadRoot_BadRoot q_BadSystem_BadRoot
    · cases hns.symm.trans n_BadRoot; exact kit_cls ic_BadRoot tC_BadRoot q_BadRoot_BadRoot q_BadRoot_BadRoot
    · cases hns.symm.trans n_BadPaper; exact kit_cls ic_BadRoot tC_BadRoot q_BadRoot_BadRoot q_BadPaper_BadRoot
    · cases hns.symm.trans n_NotKept; exact kit_cls ic_BadRoot tC_BadRoot q_BadRoot_BadRoot q_NotKept_BadRoot
    · cases hns.symm.trans n_NothingToUndo; exact kit_cls ic_BadRoot tC_BadRoot q_BadRoot_BadRoot q_NothingToUndo_BadRoot
    · cases hns.symm.trans n_NothingToRedo; exact kit_cls ic_BadRoot tC_BadRoot q_BadRoot_BadRoot q_NothingToRedo_BadRoot
  have XI_BadPaper : ExcI K mg "BadPaper" := by
    refine ⟨_, PySem.W.mg_of X G n_BadPaper, ?_⟩
    intro c C he hns
    simp only [excN, decide_eq_true_eq, List.mem_cons, List.not_mem_nil, or_false] at he
    rcases he with rfl | rfl | rfl | rfl | rfl | rfl | rfl | rfl | rfl | rfl | rfl | rfl | rfl | rfl | rfl
    · cases hns.symm.trans n_BadText; exact kit_cls ic_BadPaper tC_BadPaper q_BadPaper_BadPaper q_BadText_BadPaper
    · cases hns.symm.trans n_BadNumber; exact kit_cls ic_BadPaper tC_BadPaper q_BadPaper_BadPaper q_BadNumber_BadPaper
    · cases hns.symm.trans n_BadName; exact kit_cls ic_BadPaper tC_BadPaper q_BadPaper_BadPaper q_BadName_BadPaper
    · cases hns.symm.trans n_NoName; exact kit_cls ic_BadPaper tC_BadPaper q_BadPaper_BadPaper q_NoName_BadPaper
    · cases hns.symm.trans n_TakenName; exact kit_cls ic_BadPaper tC_BadPaper q_BadPaper_BadPaper q_TakenName_BadPaper
    · cases hns.symm.trans n_BadWeb; exact kit_cls ic_BadPaper tC_BadPaper q_BadPaper_BadPaper q_BadWeb_BadPaper
    · cases hns.symm.trans n_BadTable; exact kit_cls ic_BadPaper tC_BadPaper q_BadPaper_BadPaper q_BadTable_BadPaper
    · cases hns.symm.trans n_BadRow; exact kit_cls ic_BadPaper tC_BadPaper q_BadPaper_BadPaper q_BadRow_BadPaper
    · cases hns.symm.trans n_BadRows; exact kit_cls ic_BadPaper tC_BadPaper q_BadPaper_BadPaper q_BadRows_BadPaper
    · cases hns.symm.trans n_BadSystem; exact kit_cls ic_BadPaper tC_BadPaper q_BadPaper_BadPaper q_BadSystem_BadPaper
    · cases hns.symm.trans n_BadRoot; exact kit_cls ic_BadPaper tC_BadPaper q_BadPaper_BadPaper q_BadRoot_BadPaper
    · cases hns.symm.trans n_BadPaper; exact kit_cls ic_BadPaper tC_BadPaper q_BadPaper_BadPaper q_BadPaper_BadPaper
    · cases hns.symm.trans n_NotKept; exact kit_cls ic_BadPaper tC_BadPaper q_BadPaper_BadPaper q_NotKept_BadPaper
    · cases hns.symm.trans n_NothingToUndo; exact kit_cls ic_BadPaper tC_BadPaper q_BadPaper_BadPaper q_NothingToUndo_BadPaper
    · cases hns.symm.trans n_NothingToRedo; exact kit_cls ic_BadPaper tC_BadPaper q_BadPaper_BadPaper q_NothingToRedo_BadPaper
  have XI_NotKept : ExcI K mg "NotKept" := by
    refine ⟨_, PySem.W.mg_of X G n_NotKept, ?_⟩
    intro c C he hns
    simp only [excN, decide_eq_true_eq, List.mem_cons, List.not_mem_nil, or_false] at he
    rcases he with rfl | rfl | rfl | rfl | rfl | rfl | rfl | rfl | rfl | rfl | rfl | rfl | rfl | rfl | rfl
    · cases hns.symm.trans n_BadText; exact kit_cls ic_NotKept tC_NotKept q_NotKept_NotKept q_BadText_NotKept
    · cases hns.symm.trans n_BadNumber; exact kit_cls ic_NotKept tC_NotKept q_NotKept_NotKept q_BadNumber_NotKept
    · cases hns.symm.trans n_BadName; exact kit_cls ic_NotKept tC_NotKept q_NotKept_NotKept q_BadName_NotKept
    · cases hns.symm.trans n_NoName; exact kit_cls ic_NotKept tC_NotKept q_NotKept_NotKept q_NoName_NotKept
    · cases hns.symm.trans n_TakenName; exact kit_cls ic_NotKept tC_NotKept q_NotKept_NotKept q_TakenName_NotKept
    · cases hns.symm.trans n_BadWeb; exact kit_cls ic_NotKept tC_NotKept q_NotKept_NotKept q_BadWeb_NotKept
    · cases hns.symm.trans n_BadTable; exact kit_cls ic_NotKept tC_NotKept q_NotKept_NotKept q_BadTable_NotKept
    · cases hns.symm.trans n_BadRow; exact kit_cls ic_NotKept tC_NotKept q_NotKept_NotKept q_BadRow_NotKept
    · cases hns.symm.trans n_BadRows; exact kit_cls ic_NotKept tC_NotKept q_NotKept_NotKept q_BadRows_NotKept
    · cases hns.symm.trans n_BadSystem; exact kit_cls ic_NotKept tC_NotKept q_NotKept_NotKept q_BadSystem_NotKept
    · cases hns.symm.trans n_BadRoot; exact kit_cls ic_NotKept tC_NotKept q_NotKept_NotKept q_BadRoot_NotKept
    · cases hns.symm.trans n_BadPaper; exact kit_cls ic_NotKept tC_NotKept q_NotKept_NotKept q_BadPaper_NotKept
    · cases hns.symm.trans n_NotKept; exact kit_cls ic_NotKept tC_NotKept q_NotKept_NotKept q_NotKept_NotKept
    · cases hns.symm.trans n_NothingToUndo; exact kit_cls ic_NotKept tC_NotKept q_NotKept_NotKept q_NothingToUndo_NotKept
    · cases hns.symm.trans n_NothingToRedo; exact kit_cls ic_NotKept tC_NotKept q_NotKept_NotKept q_NothingToRedo_NotKept
  have XI_NothingToUndo : ExcI K mg "NothingToUndo" := by
    refine ⟨_, PySem.W.mg_of X G n_NothingToUndo, ?_⟩
    intro c C he hns
    simp only [excN, decide_eq_true_eq, List.mem_cons, List.not_mem_nil, or_false] at he
    rcases he with rfl | rfl | rfl | rfl | rfl | rfl | rfl | rfl | rfl | rfl | rfl | rfl | rfl | rfl | rfl
    · cases hns.symm.trans n_BadText; exact kit_cls ic_NothingToUndo tC_NothingToUndo q_NothingToUndo_NothingToUndo q_BadText_NothingToUndo
    · cases hns.symm.trans n_BadNumber; exact kit_cls ic_NothingToUndo tC_NothingToUndo q_NothingToUndo_NothingToUndo q_BadNumber_NothingToUndo
    · cases hns.symm.trans n_BadName; exact kit_cls ic_NothingToUndo tC_NothingToUndo q_NothingToUndo_NothingToUndo q_BadName_NothingToUndo
    · cases hns.symm.trans n_NoName; exact kit_cls ic_NothingToUndo tC_NothingToUndo q_NothingToUndo_NothingToUndo q_NoName_NothingToUndo
    · cases hns.symm.trans n_TakenName; exact kit_cls ic_NothingToUndo tC_NothingToUndo q_NothingToUndo_NothingToUndo q_TakenName_NothingToUndo
    · cases hns.symm.trans n_BadWeb; exact kit_cls ic_NothingToUndo tC_NothingToUndo q_NothingToUndo_NothingToUndo q_BadWeb_NothingToUndo
    · cases hns.symm.trans n_BadTable; exact kit_cls ic_NothingToUndo tC_NothingToUndo q_NothingToUndo_NothingToUndo q_BadTable_NothingToUndo
    · cases hns.symm.trans n_BadRow; exact kit_cls ic_NothingToUndo tC_NothingToUndo q_NothingToUndo_NothingToUndo q_BadRow_NothingToUndo
    · cases hns.symm.trans n_BadRows; exact kit_cls ic_NothingToUndo tC_NothingToUndo q_NothingToUndo_NothingToUndo q_BadRows_NothingToUndo
    · cases hns.symm.trans n_BadSystem; exact kit_cls ic_NothingToUndo tC_NothingToUndo q_NothingToUndo_NothingToUndo q_BadSystem_NothingToUndo
    · cases hns.symm.trans n_BadRoot; exact kit_cls ic_NothingToUndo tC_NothingToUndo q_NothingToUndo_NothingToUndo q_BadRoot_NothingToUndo
    · cases hns.symm.trans n_BadPaper; exact kit_cls ic_NothingToUndo tC_NothingToUndo q_NothingToUndo_NothingToUndo q_BadPaper_NothingToUndo
    · cases hns.symm.trans n_NotKept; exact kit_cls ic_NothingToUndo tC_NothingToUndo q_NothingToUndo_NothingToUndo q_NotKept_NothingToUndo
    · cases hns.symm.trans n_NothingToUndo; exact kit_cls ic_NothingToUndo tC_NothingToUndo q_NothingToUndo_NothingToUndo q_NothingToUndo_NothingToUndo
    · cases hns.symm.trans n_NothingToRedo; exact kit_cls ic_NothingToUndo tC_NothingToUndo q_NothingToUndo_NothingToUndo q_NothingToRedo_NothingToUndo
  have XI_NothingToRedo : ExcI K mg "NothingToRedo" := by
    refine ⟨_, PySem.W.mg_of X G n_NothingToRedo, ?_⟩
    intro c C he hns
    simp only [excN, decide_eq_true_eq, List.mem_cons, List.not_mem_nil, or_false] at he
    rcases he with rfl | rfl | rfl | rfl | rfl | rfl | rfl | rfl | rfl | rfl | rfl | rfl | rfl | rfl | rfl
    · cases hns.symm.trans n_BadText; exact kit_cls ic_NothingToRedo tC_NothingToRedo q_NothingToRedo_NothingToRedo q_BadText_NothingToRedo
    · cases hns.symm.trans n_BadNumber; exact kit_cls ic_NothingToRedo tC_NothingToRedo q_NothingToRedo_NothingToRedo q_BadNumber_NothingToRedo
    · cases hns.symm.trans n_BadName; exact kit_cls ic_NothingToRedo tC_NothingToRedo q_NothingToRedo_NothingToRedo q_BadName_NothingToRedo
    · cases hns.symm.trans n_NoName; exact kit_cls ic_NothingToRedo tC_NothingToRedo q_NothingToRedo_NothingToRedo q_NoName_NothingToRedo
    · cases hns.symm.trans n_TakenName; exact kit_cls ic_NothingToRedo tC_NothingToRedo q_NothingToRedo_NothingToRedo q_TakenName_NothingToRedo
    · cases hns.symm.trans n_BadWeb; exact kit_cls ic_NothingToRedo tC_NothingToRedo q_NothingToRedo_NothingToRedo q_BadWeb_NothingToRedo
    · cases hns.symm.trans n_BadTable; exact kit_cls ic_NothingToRedo tC_NothingToRedo q_NothingToRedo_NothingToRedo q_BadTable_NothingToRedo
    · cases hns.symm.trans n_BadRow; exact kit_cls ic_NothingToRedo tC_NothingToRedo q_NothingToRedo_NothingToRedo q_BadRow_NothingToRedo
    · cases hns.symm.trans n_BadRows; exact kit_cls ic_NothingToRedo tC_NothingToRedo q_NothingToRedo_NothingToRedo q_BadRows_NothingToRedo
    · cases hns.symm.trans n_BadSystem; exact kit_cls ic_NothingToRedo tC_NothingToRedo q_NothingToRedo_NothingToRedo q_BadSystem_NothingToRedo
    · cases hns.symm.trans n_BadRoot; exact kit_cls ic_NothingToRedo tC_NothingToRedo q_NothingToRedo_NothingToRedo q_BadRoot_NothingToRedo
    · cases hns.symm.trans n_BadPaper; exact kit_cls ic_NothingToRedo tC_NothingToRedo q_NothingToRedo_NothingToRedo q_BadPaper_NothingToRedo
    · cases hns.symm.trans n_NotKept; exact kit_cls ic_NothingToRedo tC_NothingToRedo q_NothingToRedo_NothingToRedo q_NotKept_NothingToRedo
    · cases hns.symm.trans n_NothingToUndo; exact kit_cls ic_NothingToRedo tC_NothingToRedo q_NothingToRedo_NothingToRedo q_NothingToUndo_NothingToRedo
    · cases hns.symm.trans n_NothingToRedo; exact kit_cls ic_NothingToRedo tC_NothingToRedo q_NothingToRedo_NothingToRedo q_NothingToRedo_NothingToRedo
  have XN_column : ExcNo K ["BadText"] "column" := by
    intro c hc C hns
    simp only [List.mem_cons, List.not_mem_nil, or_false] at hc
    rcases hc with rfl
    · cases hns.symm.trans n_BadText; exact no_BadText_column
  have XN_line : ExcNo K ["BadText"] "line" := by
    intro c hc C hns
    simp only [List.mem_cons, List.not_mem_nil, or_false] at hc
    rcases hc with rfl
    · cases hns.symm.trans n_BadText; exact no_BadText_line
  have XN_name : ExcNo K ["BadName", "NoName", "TakenName"] "name" := by
    intro c hc C hns
    simp only [List.mem_cons, List.not_mem_nil, or_false] at hc
    rcases hc with rfl | rfl | rfl
    · cases hns.symm.trans n_BadName; exact no_BadName_name
    · cases hns.symm.trans n_NoName; exact no_NoName_name
    · cases hns.symm.trans n_TakenName; exact no_TakenName_name
  have XN_number : ExcNo K ["BadNumber"] "number" := by
    intro c hc C hns
    simp only [List.mem_cons, List.not_mem_nil, or_false] at hc
    rcases hc with rfl
    · cases hns.symm.trans n_BadNumber; exact no_BadNumber_number
  have XN_paper : ExcNo K ["BadPaper"] "paper" := by
    intro c hc C hns
    simp only [List.mem_cons, List.not_mem_nil, or_false] at hc
    rcases hc with rfl
    · cases hns.symm.trans n_BadPaper; exact no_BadPaper_paper
  have XN_promise : ExcNo K ["NotKept"] "promise" := by
    intro c hc C hns
    simp only [List.mem_cons, List.not_mem_nil, or_false] at hc
    rcases hc with rfl
    · cases hns.symm.trans n_NotKept; exact no_NotKept_promise
  have XN_root : ExcNo K ["BadRoot"] "root" := by
    intro c hc C hns
    simp only [List.mem_cons, List.not_mem_nil, or_false] at hc
    rcases hc with rfl
    · cases hns.symm.trans n_BadRoot; exact no_BadRoot_root
  have XN_row : ExcNo K ["BadRow"] "row" := by
    intro c hc C hns
    simp only [List.mem_cons, List.not_mem_nil, or_false] at hc
    rcases hc with rfl
    · cases hns.symm.trans n_BadRow; exact no_BadRow_row
  have XN_rows : ExcNo K ["BadRows"] "rows" := by
    intro c hc C hns
    simp only [List.mem_cons, List.not_mem_nil, or_false] at hc
    rcases hc with rfl
    · cases hns.symm.trans n_BadRows; exact no_BadRows_rows
  have XN_system : ExcNo K ["BadSystem"] "system" := by
    intro c hc C hns
    simp only [List.mem_cons, List.not_mem_nil, or_false] at hc
    rcases hc with rfl
    · cases hns.symm.trans n_BadSystem; exact no_BadSystem_system
  have XN_table : ExcNo K ["BadTable"] "table" := by
    intro c hc C hns
    simp only [List.mem_cons, List.not_mem_nil, or_false] at hc
    rcases hc with rfl
    · cases hns.symm.trans n_BadTable; exact no_BadTable_table
  have XN_web : ExcNo K ["BadWeb"] "web" := by
    intro c hc C hns
    simp only [List.mem_cons, List.not_mem_nil, or_false] at hc
    rcases hc with rfl
    · cases hns.symm.trans n_BadWeb; exact no_BadWeb_web
  have XN_what : ExcNo K ["BadNumber"] "what" := by
    intro c hc C hns
    simp only [List.mem_cons, List.not_mem_nil, or_false] at hc
    rcases hc with rfl
    · cases hns.symm.trans n_BadNumber; exact no_BadNumber_what
  have XN_witness : ExcNo K ["NotKept"] "witness" := by
    intro c hc C hns
    simp only [List.mem_cons, List.not_mem_nil, or_false] at hc
    rcases hc with rfl
    · cases hns.symm.trans n_NotKept; exact no_NotKept_witness
  have E0_NothingToUndo : Exc0 K mg "NothingToUndo" := ⟨_, PySem.W.mg_of X G n_NothingToUndo, n_NothingToUndo, k0_NothingToUndo, _, _, _, _, PySem.F.excBase_ValueError, x0_NothingToUndo⟩
  have E0_NothingToRedo : Exc0 K mg "NothingToRedo" := ⟨_, PySem.W.mg_of X G n_NothingToRedo, n_NothingToRedo, k0_NothingToRedo, _, _, _, _, PySem.F.excBase_ValueError, x0_NothingToRedo⟩
  have F0 := fun_mk (st := s_u_law_pen) l0 c0 k0
  have b0 := F0.binds (ps := ["script"]) fun _ _ _ _ _ _ us hl => match us, hl with | [_], _ => rfl
  have D0 : Def P w K mg base 1 "_law_pen" ["script"] (spP K (fun _ => 0) 1 d_u_law_pen) := ⟨_, _, PySem.W.mg_of X G a0, k0, b0, fn_u_law_pen F0 y_int y_list⟩
  have F1 := fun_mk (st := s_u_law_one) l1 c1 k1
  have b1 := F1.binds (ps := ["kind", "a", "b"]) fun _ _ _ _ _ _ us hl => match us, hl with | [_, _, _], _ => rfl
  have D1 : Def P w K mg base 3 "_law_one" ["kind", "a", "b"] (spP K (fun _ => 0) 3 d_u_law_one) := ⟨_, _, PySem.W.mg_of X G a1, k1, b1, fn_u_law_one F1 E_TakenName E_NoName E_BadName E_BadWeb E_BadTable E_BadRow E_BadRows E_BadSystem E_BadRoot E_BadPaper E_BadText E_BadNumber E_NotKept XA XN_name XN_web XN_table XN_row XN_rows XN_system XN_root XN_paper XN_column XN_line XN_number XN_what XN_witness XN_promise E0_NothingToUndo E0_NothingToRedo⟩
  have F2 := fun_mk (st := s_u_law_draw) l2 c2 k2
  have b2 := F2.binds (ps := ["pen", "many"]) fun _ _ _ _ _ _ us hl => match us, hl with | [_, _], _ => rfl
  have D2 : Def P w K mg base 1 "_law_draw" ["pen", "many"] (spP K (fun _ => 0) 2 d_u_law_draw) := ⟨_, _, PySem.W.mg_of X G a2, k2, b2, fn_u_law_draw F2 y_len y_int⟩
  have F3 := fun_mk (st := s_u_law_pick) l3 c3 k3
  have b3 := F3.binds (ps := ["pen", "some"]) fun _ _ _ _ _ _ us hl => match us, hl with | [_, _], _ => rfl
  have D3 : Def P w K mg base 2 "_law_pick" ["pen", "some"] (spP K (fun _ => 0) 2 d_u_law_pick) := ⟨_, _, PySem.W.mg_of X G a3, k3, b3, fn_u_law_pick F3 y_len D2⟩
  have F4 := fun_mk (st := s_u_law_which) l4 c4 k4
  have b4 := F4.binds (ps := ["e"]) fun _ _ _ _ _ _ us hl => match us, hl with | [_], _ => rfl
  have D4 : Def P w K mg base 1 "_law_which" ["e"] (spP K (fun _ => 0) 1 d_u_law_which) := ⟨_, _, PySem.W.mg_of X G a4, k4, b4, fn_u_law_which F4 y_isinstance XA XI_BadWeb XI_TakenName XI_NoName XI_BadName XI_BadSystem XI_BadRows XI_BadRow XI_BadTable XI_BadNumber XI_BadText XI_BadPaper XI_BadRoot XI_NothingToRedo XI_NothingToUndo XI_NotKept⟩
  have F5 := fun_mk (st := s_law) l5 c5 k5
  have b5 := F5.binds (ps := ["script"]) fun _ _ _ _ _ _ us hl => match us, hl with | [_], _ => rfl
  exact fn_law F5 y_range y_repr y_len y_isinstance y_ValueError XA XV XI_LineError D0 D2 D3 D1 D4
end K00
theorem K00.law_true (ns : List Int) (hl : ns.length ≤ 63) : Y.LawTrue K00.d_law ns := by
  have e : K00.d_law = L00.d_law := rfl
  rw [e]
  exact L00.law_true ns hl
open PySem PySem.W PyProof.Rows in
set_option maxHeartbeats 0 in
theorem PySem.Challenge.cw_sixtylines_k00_errors_holds : PySem.Challenge.rw_sixtylines_k00_errors.Holds := by
  w_on; o_law; k_head; (case hw => w_witness2)
  k_fill
  refine Y.walkG (l := PySem.Challenge.rw_sixtylines_k00_errors) (n := 63) (k := 4) (x := "script") (d := K00.d_law) rfl (by decide) rfl ⟨rfl, by decide, by decide⟩ (fun w h Y => PySem.W.kIn_of Y) K00.law_true ?F
  case F =>
    intro w mg fa h KX G hmg
    refine' K00.all_mk KX G ?n_LineError ?n_BadText ?n_BadNumber ?n_BadName ?n_NoName ?n_TakenName ?n_BadWeb ?n_BadTable ?n_BadRow ?n_BadRows ?n_BadSystem ?n_BadRoot ?n_BadPaper ?n_NotKept ?n_NothingToUndo ?n_NothingToRedo ?ic_LineError ?tC_LineError ?eC_BadText ?tC_BadText ?x_BadText ?sa_BadText ?kC_BadText ?i_BadText ?ti_BadText ?l6 ?c6 ?k6 ?ga_BadText ?gg_BadText ?hd_BadText ?hc_BadText ?mc_BadText ?vx_BadText ?ic_BadText ?no_BadText_line ?no_BadText_column ?eC_BadNumber ?tC_BadNumber ?x_BadNumber ?sa_BadNumber ?kC_BadNumber ?i_BadNumber ?ti_BadNumber ?l7 ?c7 ?k7 ?ga_BadNumber ?gg_BadNumber ?hd_BadNumber ?hc_BadNumber ?mc_BadNumber ?vx_BadNumber ?ic_BadNumber ?no_BadNumber_what ?no_BadNumber_number ?eC_BadName ?tC_BadName ?x_BadName ?sa_BadName ?kC_BadName ?i_BadName ?ti_BadName ?l8 ?c8 ?k8 ?ga_BadName ?gg_BadName ?hd_BadName ?hc_BadName ?mc_BadName ?vx_BadName ?ic_BadName ?no_BadName_name ?eC_NoName ?tC_NoName ?x_NoName ?sa_NoName ?kC_NoName ?i_NoName ?ti_NoName ?l9 ?c9 ?k9 ?ga_NoName ?gg_NoName ?hd_NoName ?hc_NoName ?mc_NoName ?vx_NoName ?ic_NoName ?no_NoName_name ?eC_TakenName ?tC_TakenName ?x_TakenName ?sa_TakenName ?kC_TakenName ?i_TakenName ?ti_TakenName ?l10 ?c10 ?k10 ?ga_TakenName ?gg_TakenName ?hd_TakenName ?hc_TakenName ?mc_TakenName ?vx_TakenName ?ic_TakenName ?no_TakenName_name ?eC_BadWeb ?tC_BadWeb ?x_BadWeb ?sa_BadWeb ?kC_BadWeb ?i_BadWeb ?ti_BadWeb ?l11 ?c11 ?k11 ?ga_BadWeb ?gg_BadWeb ?hd_BadWeb ?hc_BadWeb ?mc_BadWeb ?vx_BadWeb ?ic_BadWeb ?no_BadWeb_web ?eC_BadTable ?tC_BadTable ?x_BadTable ?sa_BadTable ?kC_BadTable ?i_BadTable ?ti_BadTable ?l12 ?c12 ?k12 ?ga_BadTable ?gg_BadTable ?hd_BadTable ?hc_BadTable ?mc_BadTable ?vx_BadTable ?ic_BadTable ?no_BadTable_table ?eC_BadRow ?tC_BadRow ?x_BadRow ?sa_BadRow ?kC_BadRow ?i_BadRow ?ti_BadRow ?l13 ?c13 ?k13 ?ga_BadRow ?gg_BadRow ?hd_BadRow ?hc_BadRow ?mc_BadRow ?vx_BadRow ?ic_BadRow ?no_BadRow_row ?eC_BadRows ?tC_BadRows ?x_BadRows ?sa_BadRows ?kC_BadRows ?i_BadRows ?ti_BadRows ?l14 ?c14 ?k14 ?ga_BadRows ?gg_BadRows ?hd_BadRows ?hc_BadRows ?mc_BadRows ?vx_BadRows ?ic_BadRows ?no_BadRows_rows ?eC_BadSystem ?tC_BadSystem ?x_BadSystem ?sa_BadSystem ?kC_BadSystem ?i_BadSystem ?ti_BadSystem ?l15 ?c15 ?k15 ?ga_BadSystem ?gg_BadSystem ?hd_BadSystem ?hc_BadSystem ?mc_BadSystem ?vx_BadSystem ?ic_BadSystem ?no_BadSystem_system ?eC_BadRoot ?tC_BadRoot ?x_BadRoot ?sa_BadRoot ?kC_BadRoot ?i_BadRoot ?ti_BadRoot ?l16 ?c16 ?k16 ?ga_BadRoot ?gg_BadRoot ?hd_BadRoot ?hc_BadRoot ?mc_BadRoot ?vx_BadRoot ?ic_BadRoot ?no_BadRoot_root ?eC_BadPaper ?tC_BadPaper ?x_BadPaper ?sa_BadPaper ?kC_BadPaper ?i_BadPaper ?ti_BadPaper ?l17 ?c17 ?k17 ?ga_BadPaper ?gg_BadPaper ?hd_BadPaper ?hc_BadPaper ?mc_BadPaper ?vx_BadPaper ?ic_BadPaper ?no_BadPaper_paper ?eC_NotKept ?tC_NotKept ?x_NotKept ?sa_NotKept ?kC_NotKept ?i_NotKept ?ti_NotKept ?l18 ?c18 ?k18 ?ga_NotKept ?gg_NotKept ?hd_NotKept ?hc_NotKept ?mc_NotKept ?vx_NotKept ?ic_NotKept ?no_NotKept_promise ?no_NotKept_witness ?eC_NothingToUndo ?ga_NothingToUndo ?gg_NothingToUndo ?hd_NothingToUndo ?hc_NothingToUndo ?mc_NothingToUndo ?vx_NothingToUndo ?ic_NothingToUndo ?tC_NothingToUndo ?k0_NothingToUndo ?x0_NothingToUndo ?eC_NothingToRedo ?ga_NothingToRedo ?gg_NothingToRedo ?hd_NothingToRedo ?hc_NothingToRedo ?mc_NothingToRedo ?vx_NothingToRedo ?ic_NothingToRedo ?tC_NothingToRedo ?k0_NothingToRedo ?x0_NothingToRedo ?q_BadText_LineError ?q_BadNumber_LineError ?q_BadName_LineError ?q_NoName_LineError ?q_TakenName_LineError ?q_BadWeb_LineError ?q_BadTable_LineError ?q_BadRow_LineError ?q_BadRows_LineError ?q_BadSystem_LineError ?q_BadRoot_LineError ?q_BadPaper_LineError ?q_NotKept_LineError ?q_NothingToUndo_LineError ?q_NothingToRedo_LineError ?q_LineError_LineError ?q_BadText_BadText ?q_BadNumber_BadText ?q_BadName_BadText ?q_NoName_BadText ?q_TakenName_BadText ?q_BadWeb_BadText ?q_BadTable_BadText ?q_BadRow_BadText ?q_BadRows_BadText ?q_BadSystem_BadText ?q_BadRoot_BadText ?q_BadPaper_BadText ?q_NotKept_BadText ?q_NothingToUndo_BadText ?q_NothingToRedo_BadText ?q_BadText_BadNumber ?q_BadNumber_BadNumber ?q_BadName_BadNumber ?q_NoName_BadNumber ?q_TakenName_BadNumber ?q_BadWeb_BadNumber ?q_BadTable_BadNumber ?q_BadRow_BadNumber ?q_BadRows_BadNumber ?q_BadSystem_BadNumber ?q_BadRoot_BadNumber ?q_BadPaper_BadNumber ?q_NotKept_BadNumber ?q_NothingToUndo_BadNumber ?q_NothingToRedo_BadNumber ?q_BadText_BadName ?q_BadNumber_BadName ?q_BadName_BadName ?q_NoName_BadName ?q_TakenName_BadName ?q_BadWeb_BadName ?q_BadTable_BadName ?q_BadRow_BadName ?q_BadRows_BadName ?q_BadSystem_BadName ?q_BadRoot_BadName ?q_BadPaper_BadName ?q_NotKept_BadName ?q_NothingToUndo_BadName ?q_NothingToRedo_BadName ?q_BadText_NoName ?q_BadNumber_NoName ?q_BadName_NoName ?q_NoName_NoName ?q_TakenName_NoName ?q_BadWeb_NoName ?q_BadTable_NoName ?q_BadRow_NoName ?q_BadRows_NoName ?q_BadSystem_NoName ?q_BadRoot_NoName ?q_BadPaper_NoName ?q_NotKept_NoName ?q_NothingToUndo_NoName ?q_NothingToRedo_NoName ?q_BadText_TakenName ?q_BadNumber_TakenName ?q_BadName_TakenName ?q_NoName_TakenName ?q_TakenName_TakenName ?q_BadWeb_TakenName ?q_BadTable_TakenName ?q_BadRow_TakenName ?q_BadRows_TakenName ?q_BadSystem_TakenName ?q_BadRoot_TakenName ?q_BadPaper_TakenName ?q_NotKept_TakenName ?q_NothingToUndo_TakenName ?q_NothingToRedo_TakenName ?q_BadText_BadWeb ?q_BadNumber_BadWeb ?q_BadName_BadWeb ?q_NoName_BadWeb ?q_TakenName_BadWeb ?q_BadWeb_BadWeb ?q_BadTable_BadWeb ?q_BadRow_BadWeb ?q_BadRows_BadWeb ?q_BadSystem_BadWeb ?q_BadRoot_BadWeb ?q_BadPaper_BadWeb ?q_NotKept_BadWeb ?q_NothingToUndo_BadWeb ?q_NothingToRedo_BadWeb ?q_BadText_BadTable ?q_BadNumber_BadTable ?q_BadName_BadTable ?q_NoName_BadTable ?q_TakenName_BadTable ?q_BadWeb_BadTable ?q_BadTable_BadTable ?q_BadRow_BadTable ?q_BadRows_BadTable ?q_BadSystem_BadTable ?q_BadRoot_BadTable ?q_BadPaper_BadTable ?q_NotKept_BadTable ?q_NothingToUndo_BadTable ?q_NothingToRedo_BadTable ?q_BadText_BadRow ?q_BadNumber_BadRow ?q_BadName_BadRow ?q_NoName_BadRow ?q_TakenName_BadRow ?q_BadWeb_BadRow ?q_BadTable_BadRow ?q_BadRow_BadRow ?q_BadRows_BadRow ?q_BadSystem_BadRow ?q_BadRoot_BadRow ?q_BadPaper_BadRow ?q_NotKept_BadRow ?q_NothingToUndo_BadRow ?q_NothingToRedo_BadRow ?q_BadText_BadRows ?q_BadNumber_BadRows ?q_BadName_BadRows ?q_NoName_BadRows ?q_TakenName_BadRows ?q_BadWeb_BadRows ?q_BadTable_BadRows ?q_BadRow_BadRows ?q_BadRows_BadRows ?q_BadSystem_BadRows ?q_BadRoot_BadRows ?q_BadPaper_BadRows ?q_NotKept_BadRows ?q_NothingToUndo_BadRows ?q_NothingToRedo_BadRows ?q_BadText_BadSystem ?q_BadNumber_BadSystem ?q_BadName_BadSystem ?q_NoName_BadSystem ?q_TakenName_BadSystem ?q_BadWeb_BadSystem ?q_BadTable_BadSystem ?q_BadRow_BadSystem ?q_BadRows_BadSystem ?q_BadSystem_BadSystem ?q_BadRoot_BadSystem ?q_BadPaper_BadSystem ?q_NotKept_BadSystem ?q_NothingToUndo_BadSystem ?q_NothingToRedo_BadSystem ?q_BadText_BadRoot ?q_BadNumber_BadRoot ?q_BadName_BadRoot ?q_NoName_BadRoot ?q_TakenName_BadRoot ?q_BadWeb_BadRoot ?q_BadTable_BadRoot ?q_BadRow_BadRoot ?q_BadRows_BadRoot ?q_BadSystem_BadRoot ?q_BadRoot_BadRoot ?q_BadPaper_BadRoot ?q_NotKept_BadRoot ?q_NothingToUndo_BadRoot ?q_NothingToRedo_BadRoot ?q_BadText_BadPaper ?q_BadNumber_BadPaper ?q_BadName_BadPaper ?q_NoName_BadPaper ?q_TakenName_BadPaper ?q_BadWeb_BadPaper ?q_BadTable_BadPaper ?q_BadRow_BadPaper ?q_BadRows_BadPaper ?q_BadSystem_BadPaper ?q_BadRoot_BadPaper ?q_BadPaper_BadPaper ?q_NotKept_BadPaper ?q_NothingToUndo_BadPaper ?q_NothingToRedo_BadPaper ?q_BadText_NotKept ?q_BadNumber_NotKept ?q_BadName_NotKept ?q_NoName_NotKept ?q_TakenName_NotKept ?q_BadWeb_NotKept ?q_BadTable_NotKept ?q_BadRow_NotKept ?q_BadRows_NotKept ?q_BadSystem_NotKept ?q_BadRoot_NotKept ?q_BadPaper_NotKept ?q_NotKept_NotKept ?q_NothingToUndo_NotKept ?q_NothingToRedo_NotKept ?q_BadText_NothingToUndo ?q_BadNumber_NothingToUndo ?q_BadName_NothingToUndo ?q_NoName_NothingToUndo ?q_TakenName_NothingToUndo ?q_BadWeb_NothingToUndo ?q_BadTable_NothingToUndo ?q_BadRow_NothingToUndo ?q_BadRows_NothingToUndo ?q_BadSystem_NothingToUndo ?q_BadRoot_NothingToUndo ?q_BadPaper_NothingToUndo ?q_NotKept_NothingToUndo ?q_NothingToUndo_NothingToUndo ?q_NothingToRedo_NothingToUndo ?q_BadText_NothingToRedo ?q_BadNumber_NothingToRedo ?q_BadName_NothingToRedo ?q_NoName_NothingToRedo ?q_TakenName_NothingToRedo ?q_BadWeb_NothingToRedo ?q_BadTable_NothingToRedo ?q_BadRow_NothingToRedo ?q_BadRows_NothingToRedo ?q_BadSystem_NothingToRedo ?q_BadRoot_NothingToRedo ?q_BadPaper_NothingToRedo ?q_NotKept_NothingToRedo ?q_NothingToUndo_NothingToRedo ?q_NothingToRedo_NothingToRedo ?gcO ?tcO ?a0 ?l0 ?c0 ?k0 ?a1 ?l1 ?c1 ?k1 ?a2 ?l2 ?c2 ?k2 ?a3 ?l3 ?c3 ?k3 ?a4 ?l4 ?c4 ?k4 ?a5 ?l5 ?c5 ?k5 ?z_int ?z_list ?z_len ?z_isinstance ?z_range ?z_repr ?z_ValueError hmg
    (case n_LineError => k_is)
    (case n_BadText => k_is)
    (case n_BadNumber => k_is)
    (case n_BadName => k_is)
    (case n_NoName => k_is)
    (case n_TakenName => k_is)
    (case n_BadWeb => k_is)
    (case n_BadTable => k_is)
    (case n_BadRow => k_is)
    (case n_BadRows => k_is)
    (case n_BadSystem => k_is)
    (case n_BadRoot => k_is)
    (case n_BadPaper => k_is)
    (case n_NotKept => k_is)
    (case n_NothingToUndo => k_is)
    (case n_NothingToRedo => k_is)
    (case ic_LineError => k_is)
    (case tC_LineError => k_is)
    (case eC_BadText => k_is)
    (case tC_BadText => k_is)
    (case x_BadText => k_is)
    (case sa_BadText => k_is)
    (case kC_BadText => k_is)
    (case i_BadText => k_is)
    (case ti_BadText => k_is)
    (case l6 => k_is)
    (case c6 => k_is)
    (case k6 => k_is)
    (case ga_BadText => k_is)
    (case gg_BadText => k_is)
    (case hd_BadText => k_is)
    (case hc_BadText => k_is)
    (case mc_BadText => k_is)
    (case vx_BadText => k_is)
    (case ic_BadText => k_is)
    (case no_BadText_line => k_is)
    (case no_BadText_column => k_is)
    (case eC_BadNumber => k_is)
    (case tC_BadNumber => k_is)
    (case x_BadNumber => k_is)
    (case sa_BadNumber => k_is)
    (case kC_BadNumber => k_is)
    (case i_BadNumber => k_is)
    (case ti_BadNumber => k_is)
    (case l7 => k_is)
    (case c7 => k_is)
    (case k7 => k_is)
    (case ga_BadNumber => k_is)
    (case gg_BadNumber => k_is)
    (case hd_BadNumber => k_is)
    (case hc_BadNumber => k_is)
    (case mc_BadNumber => k_is)
    (case vx_BadNumber => k_is)
    (case ic_BadNumber => k_is)
    (case no_BadNumber_what => k_is)
    (case no_BadNumber_number => k_is)
    (case eC_BadName => k_is)
    (case tC_BadName => k_is)
    (case x_BadName => k_is)
    (case sa_BadName => k_is)
    (case kC_BadName => k_is)
    (case i_BadName => k_is)
    (case ti_BadName => k_is)
    (case l8 => k_is)
    (case c8 => k_is)
    (case k8 => k_is)
    (case ga_BadName => k_is)
    (case gg_BadName => k_is)
    (case hd_BadName => k_is)
    (case hc_BadName => k_is)
    (case mc_BadName => k_is)
    (case vx_BadName => k_is)
    (case ic_BadName => k_is)
    (case no_BadName_name => k_is)
    (case eC_NoName => k_is)
    (case tC_NoName => k_is)
    (case x_NoName => k_is)
    (case sa_NoName => k_is)
    (case kC_NoName => k_is)
    (case i_NoName => k_is)
    (case ti_NoName => k_is)
    (case l9 => k_is)
    (case c9 => k_is)
    (case k9 => k_is)
    (case ga_NoName => k_is)
    (case gg_NoName => k_is)
    (case hd_NoName => k_is)
    (case hc_NoName => k_is)
    (case mc_NoName => k_is)
    (case vx_NoName => k_is)
    (case ic_NoName => k_is)
    (case no_NoName_name => k_is)
    (case eC_TakenName => k_is)
    (case tC_TakenName => k_is)
    (case x_TakenName => k_is)
    (case sa_TakenName => k_is)
    (case kC_TakenName => k_is)
    (case i_TakenName => k_is)
    (case ti_TakenName => k_is)
    (case l10 => k_is)
    (case c10 => k_is)
    (case k10 => k_is)
    (case ga_TakenName => k_is)
    (case gg_TakenName => k_is)
    (case hd_TakenName => k_is)
    (case hc_TakenName => k_is)
    (case mc_TakenName => k_is)
    (case vx_TakenName => k_is)
    (case ic_TakenName => k_is)
    (case no_TakenName_name => k_is)
    (case eC_BadWeb => k_is)
    (case tC_BadWeb => k_is)
    (case x_BadWeb => k_is)
    (case sa_BadWeb => k_is)
    (case kC_BadWeb => k_is)
    (case i_BadWeb => k_is)
    (case ti_BadWeb => k_is)
    (case l11 => k_is)
    (case c11 => k_is)
    (case k11 => k_is)
    (case ga_BadWeb => k_is)
    (case gg_BadWeb => k_is)
    (case hd_BadWeb => k_is)
    (case hc_BadWeb => k_is)
    (case mc_BadWeb => k_is)
    (case vx_BadWeb => k_is)
    (case ic_BadWeb => k_is)
    (case no_BadWeb_web => k_is)
    (case eC_BadTable => k_is)
    (case tC_BadTable => k_is)
    (case x_BadTable => k_is)
    (case sa_BadTable => k_is)
    (case kC_BadTable => k_is)
    (case i_BadTable => k_is)
    (case ti_BadTable => k_is)
    (case l12 => k_is)
    (case c12 => k_is)
    (case k12 => k_is)
    (case ga_BadTable => k_is)
    (case gg_BadTable => k_is)
    (case hd_BadTable => k_is)
    (case hc_BadTable => k_is)
    (case mc_BadTable => k_is)
    (case vx_BadTable => k_is)
    (case ic_BadTable => k_is)
    (case no_BadTable_table => k_is)
    (case eC_BadRow => k_is)
    (case tC_BadRow => k_is)
    (case x_BadRow => k_is)
    (case sa_BadRow => k_is)
    (case kC_BadRow => k_is)
    (case i_BadRow => k_is)
    (case ti_BadRow => k_is)
    (case l13 => k_is)
    (case c13 => k_is)
    (case k13 => k_is)
    (case ga_BadRow => k_is)
    (case gg_BadRow => k_is)
    (case hd_BadRow => k_is)
    (case hc_BadRow => k_is)
    (case mc_BadRow => k_is)
    (case vx_BadRow => k_is)
    (case ic_BadRow => k_is)
    (case no_BadRow_row => k_is)
    (case eC_BadRows => k_is)
    (case tC_BadRows => k_is)
    (case x_BadRows => k_is)
    (case sa_BadRows => k_is)
    (case kC_BadRows => k_is)
    (case i_BadRows => k_is)
    (case ti_BadRows => k_is)
    (case l14 => k_is)
    (case c14 => k_is)
    (case k14 => k_is)
    (case ga_BadRows => k_is)
    (case gg_BadRows => k_is)
    (case hd_BadRows => k_is)
    (case hc_BadRows => k_is)
    (case mc_BadRows => k_is)
    (case vx_BadRows => k_is)
    (case ic_BadRows => k_is)
    (case no_BadRows_rows => k_is)
    (case eC_BadSystem => k_is)
    (case tC_BadSystem => k_is)
    (case x_BadSystem => k_is)
    (case sa_BadSystem => k_is)
    (case kC_BadSystem => k_is)
    (case i_BadSystem => k_is)
    (case ti_BadSystem => k_is)
    (case l15 => k_is)
    (case c15 => k_is)
    (case k15 => k_is)
    (case ga_BadSystem => k_is)
    (case gg_BadSystem => k_is)
    (case hd_BadSystem => k_is)
    (case hc_BadSystem => k_is)
    (case mc_BadSystem => k_is)
    (case vx_BadSystem => k_is)
    (case ic_BadSystem => k_is)
    (case no_BadSystem_system => k_is)
    (case eC_BadRoot => k_is)
    (case tC_BadRoot => k_is)
    (case x_BadRoot => k_is)
    (case sa_BadRoot => k_is)
    (case kC_BadRoot => k_is)
    (case i_BadRoot => k_is)
    (case ti_BadRoot => k_is)
    (case l16 => k_is)
    (case c16 => k_is)
    (case k16 => k_is)
    (case ga_BadRoot => k_is)
    (case gg_BadRoot => k_is)
    (case hd_BadRoot => k_is)
    (case hc_BadRoot => k_is)
    (case mc_BadRoot => k_is)
    (case vx_BadRoot => k_is)
    (case ic_BadRoot => k_is)
    (case no_BadRoot_root => k_is)
    (case eC_BadPaper => k_is)
    (case tC_BadPaper => k_is)
    (case x_BadPaper => k_is)
    (case sa_BadPaper => k_is)
    (case kC_BadPaper => k_is)
    (case i_BadPaper => k_is)
    (case ti_BadPaper => k_is)
    (case l17 => k_is)
    (case c17 => k_is)
    (case k17 => k_is)
    (case ga_BadPaper => k_is)
    (case gg_BadPaper => k_is)
    (case hd_BadPaper => k_is)
    (case hc_BadPaper => k_is)
    (case mc_BadPaper => k_is)
    (case vx_BadPaper => k_is)
    (case ic_BadPaper => k_is)
    (case no_BadPaper_paper => k_is)
    (case eC_NotKept => k_is)
    (case tC_NotKept => k_is)
    (case x_NotKept => k_is)
    (case sa_NotKept => k_is)
    (case kC_NotKept => k_is)
    (case i_NotKept => k_is)
    (case ti_NotKept => k_is)
    (case l18 => k_is)
    (case c18 => k_is)
    (case k18 => k_is)
    (case ga_NotKept => k_is)
    (case gg_NotKept => k_is)
    (case hd_NotKept => k_is)
    (case hc_NotKept => k_is)
    (case mc_NotKept => k_is)
    (case vx_NotKept => k_is)
    (case ic_NotKept => k_is)
    (case no_NotKept_promise => k_is)
    (case no_NotKept_witness => k_is)
    (case eC_NothingToUndo => k_is)
    (case ga_NothingToUndo => k_is)
    (case gg_NothingToUndo => k_is)
    (case hd_NothingToUndo => k_is)
    (case hc_NothingToUndo => k_is)
    (case mc_NothingToUndo => k_is)
    (case vx_NothingToUndo => k_is)
    (case ic_NothingToUndo => k_is)
    (case tC_NothingToUndo => k_is)
    (case k0_NothingToUndo => k_is)
    (case x0_NothingToUndo => k_exc)
    (case eC_NothingToRedo => k_is)
    (case ga_NothingToRedo => k_is)
    (case gg_NothingToRedo => k_is)
    (case hd_NothingToRedo => k_is)
    (case hc_NothingToRedo => k_is)
    (case mc_NothingToRedo => k_is)
    (case vx_NothingToRedo => k_is)
    (case ic_NothingToRedo => k_is)
    (case tC_NothingToRedo => k_is)
    (case k0_NothingToRedo => k_is)
    (case x0_NothingToRedo => k_exc)
    (case q_BadText_LineError => k_is)
    (case q_BadNumber_LineError => k_is)
    (case q_BadName_LineError => k_is)
    (case q_NoName_LineError => k_is)
    (case q_TakenName_LineError => k_is)
    (case q_BadWeb_LineError => k_is)
    (case q_BadTable_LineError => k_is)
    (case q_BadRow_LineError => k_is)
    (case q_BadRows_LineError => k_is)
    (case q_BadSystem_LineError => k_is)
    (case q_BadRoot_LineError => k_is)
    (case q_BadPaper_LineError => k_is)
    (case q_NotKept_LineError => k_is)
    (case q_NothingToUndo_LineError => k_is)
    (case q_NothingToRedo_LineError => k_is)
    (case q_LineError_LineError => k_is)
    (case q_BadText_BadText => k_is)
    (case q_BadNumber_BadText => k_is)
    (case q_BadName_BadText => k_is)
    (case q_NoName_BadText => k_is)
    (case q_TakenName_BadText => k_is)
    (case q_BadWeb_BadText => k_is)
    (case q_BadTable_BadText => k_is)
    (case q_BadRow_BadText => k_is)
    (case q_BadRows_BadText => k_is)
    (case q_BadSystem_BadText => k_is)
    (case q_BadRoot_BadText => k_is)
    (case q_BadPaper_BadText => k_is)
    (case q_NotKept_BadText => k_is)
    (case q_NothingToUndo_BadText => k_is)
    (case q_NothingToRedo_BadText => k_is)
    (case q_BadText_BadNumber => k_is)
    (case q_BadNumber_BadNumber => k_is)
    (case q_BadName_BadNumber => k_is)
    (case q_NoName_BadNumber => k_is)
    (case q_TakenName_BadNumber => k_is)
    (case q_BadWeb_BadNumber => k_is)
    (case q_BadTable_BadNumber => k_is)
    (case q_BadRow_BadNumber => k_is)
    (case q_BadRows_BadNumber => k_is)
    (case q_BadSystem_BadNumber => k_is)
    (case q_BadRoot_BadNumber => k_is)
    (case q_BadPaper_BadNumber => k_is)
    (case q_NotKept_BadNumber => k_is)
    (case q_NothingToUndo_BadNumber => k_is)
    (case q_NothingToRedo_BadNumber => k_is)
    (case q_BadText_BadName => k_is)
    (case q_BadNumber_BadName => k_is)
    (case q_BadName_BadName => k_is)
    (case q_NoName_BadName => k_is)
    (case q_TakenName_BadName => k_is)
    (case q_BadWeb_BadName => k_is)
    (case q_BadTable_BadName => k_is)
    (case q_BadRow_BadName => k_is)
    (case q_BadRows_BadName => k_is)
    (case q_BadSystem_BadName => k_is)
    (case q_BadRoot_BadName => k_is)
    (case q_BadPaper_BadName => k_is)
    (case q_NotKept_BadName => k_is)
    (case q_NothingToUndo_BadName => k_is)
    (case q_NothingToRedo_BadName => k_is)
    (case q_BadText_NoName => k_is)
    (case q_BadNumber_NoName => k_is)
    (case q_BadName_NoName => k_is)
    (case q_NoName_NoName => k_is)
    (case q_TakenName_NoName => k_is)
    (case q_BadWeb_NoName => k_is)
    (case q_BadTable_NoName => k_is)
    (case q_BadRow_NoName => k_is)
    (case q_BadRows_NoName => k_is)
    (case q_BadSystem_NoName => k_is)
    (case q_BadRoot_NoName => k_is)
    (case q_BadPaper_NoName => k_is)
    (case q_NotKept_NoName => k_is)
    (case q_NothingToUndo_NoName => k_is)
    (case q_NothingToRedo_NoName => k_is)
    (case q_BadText_TakenName => k_is)
    (case q_BadNumber_TakenName => k_is)
    (case q_BadName_TakenName => k_is)
    (case q_NoName_TakenName => k_is)
    (case q_TakenName_TakenName => k_is)
    (case q_BadWeb_TakenName => k_is)
    (case q_BadTable_TakenName => k_is)
    (case q_BadRow_TakenName => k_is)
    (case q_BadRows_TakenName => k_is)
    (case q_BadSystem_TakenName => k_is)
    (case q_BadRoot_TakenName => k_is)
    (case q_BadPaper_TakenName => k_is)
    (case q_NotKept_TakenName => k_is)
    (case q_NothingToUndo_TakenName => k_is)
    (case q_NothingToRedo_TakenName => k_is)
    (case q_BadText_BadWeb => k_is)
    (case q_BadNumber_BadWeb => k_is)
    (case q_BadName_BadWeb => k_is)
    (case q_NoName_BadWeb => k_is)
    (case q_TakenName_BadWeb => k_is)
    (case q_BadWeb_BadWeb => k_is)
    (case q_BadTable_BadWeb => k_is)
    (case q_BadRow_BadWeb => k_is)
    (case q_BadRows_BadWeb => k_is)
    (case q_BadSystem_BadWeb => k_is)
    (case q_BadRoot_BadWeb => k_is)
    (case q_BadPaper_BadWeb => k_is)
    (case q_NotKept_BadWeb => k_is)
    (case q_NothingToUndo_BadWeb => k_is)
    (case q_NothingToRedo_BadWeb => k_is)
    (case q_BadText_BadTable => k_is)
    (case q_BadNumber_BadTable => k_is)
    (case q_BadName_BadTable => k_is)
    (case q_NoName_BadTable => k_is)
    (case q_TakenName_BadTable => k_is)
    (case q_BadWeb_BadTable => k_is)
    (case q_BadTable_BadTable => k_is)
    (case q_BadRow_BadTable => k_is)
    (case q_BadRows_BadTable => k_is)
    (case q_BadSystem_BadTable => k_is)
    (case q_BadRoot_BadTable => k_is)
    (case q_BadPaper_BadTable => k_is)
    (case q_NotKept_BadTable => k_is)
    (case q_NothingToUndo_BadTable => k_is)
    (case q_NothingToRedo_BadTable => k_is)
    (case q_BadText_BadRow => k_is)
    (case q_BadNumber_BadRow => k_is)
    (case q_BadName_BadRow => k_is)
    (case q_NoName_BadRow => k_is)
    (case q_TakenName_BadRow => k_is)
    (case q_BadWeb_BadRow => k_is)
    (case q_BadTable_BadRow => k_is)
    (case q_BadRow_BadRow => k_is)
    (case q_BadRows_BadRow => k_is)
    (case q_BadSystem_BadRow => k_is)
    (case q_BadRoot_BadRow => k_is)
    (case q_BadPaper_BadRow => k_is)
    (case q_NotKept_BadRow => k_is)
    (case q_NothingToUndo_BadRow => k_is)
    (case q_NothingToRedo_BadRow => k_is)
    (case q_BadText_BadRows => k_is)
    (case q_BadNumber_BadRows => k_is)
    (case q_BadName_BadRows => k_is)
    (case q_NoName_BadRows => k_is)
    (case q_TakenName_BadRows => k_is)
    (case q_BadWeb_BadRows => k_is)
    (case q_BadTable_BadRows => k_is)
    (case q_BadRow_BadRows => k_is)
    (case q_BadRows_BadRows => k_is)
    (case q_BadSystem_BadRows => k_is)
    (case q_BadRoot_BadRows => k_is)
    (case q_BadPaper_BadRows => k_is)
    (case q_NotKept_BadRows => k_is)
    (case q_NothingToUndo_BadRows => k_is)
    (case q_NothingToRedo_BadRows => k_is)
    (case q_BadText_BadSystem => k_is)
    (case q_BadNumber_BadSystem => k_is)
    (case q_BadName_BadSystem => k_is)
    (case q_NoName_BadSystem => k_is)
    (case q_TakenName_BadSystem => k_is)
    (case q_BadWeb_BadSystem => k_is)
    (case q_BadTable_BadSystem => k_is)
    (case q_BadRow_BadSystem => k_is)
    (case q_BadRows_BadSystem => k_is)
    (case q_BadSystem_BadSystem => k_is)
    (case q_BadRoot_BadSystem => k_is)
    (case q_BadPaper_BadSystem => k_is)
    (case q_NotKept_BadSystem => k_is)
    (case q_NothingToUndo_BadSystem => k_is)
    (case q_NothingToRedo_BadSystem => k_is)
    (case q_BadText_BadRoot => k_is)
    (case q_BadNumber_BadRoot => k_is)
    (case q_BadName_BadRoot => k_is)
    (case q_NoName_BadRoot => k_is)
    (case q_TakenName_BadRoot => k_is)
    (case q_BadWeb_BadRoot => k_is)
    (case q_BadTable_BadRoot => k_is)
    (case q_BadRow_BadRoot => k_is)
    (case q_BadRows_BadRoot => k_is)
    (case q_BadSystem_BadRoot => k_is)
    (case q_BadRoot_BadRoot => k_is)
    (case q_BadPaper_BadRoot => k_is)
    (case q_NotKept_BadRoot => k_is)
    (case q_NothingToUndo_BadRoot => k_is)
    (case q_NothingToRedo_BadRoot => k_is)
    (case q_BadText_BadPaper => k_is)
    (case q_BadNumber_BadPaper => k_is)
    (case q_BadName_BadPaper => k_is)
    (case q_NoName_BadPaper => k_is)
    (case q_TakenName_BadPaper => k_is)
    (case q_BadWeb_BadPaper => k_is)
    (case q_BadTable_BadPaper => k_is)
    (case q_BadRow_BadPaper => k_is)
    (case q_BadRows_BadPaper => k_is)
    (case q_BadSystem_BadPaper => k_is)
    (case q_BadRoot_BadPaper => k_is)
    (case q_BadPaper_BadPaper => k_is)
    (case q_NotKept_BadPaper => k_is)
    (case q_NothingToUndo_BadPaper => k_is)
    (case q_NothingToRedo_BadPaper => k_is)
    (case q_BadText_NotKept => k_is)
    (case q_BadNumber_NotKept => k_is)
    (case q_BadName_NotKept => k_is)
    (case q_NoName_NotKept => k_is)
    (case q_TakenName_NotKept => k_is)
    (case q_BadWeb_NotKept => k_is)
    (case q_BadTable_NotKept => k_is)
    (case q_BadRow_NotKept => k_is)
    (case q_BadRows_NotKept => k_is)
    (case q_BadSystem_NotKept => k_is)
    (case q_BadRoot_NotKept => k_is)
    (case q_BadPaper_NotKept => k_is)
    (case q_NotKept_NotKept => k_is)
    (case q_NothingToUndo_NotKept => k_is)
    (case q_NothingToRedo_NotKept => k_is)
    (case q_BadText_NothingToUndo => k_is)
    (case q_BadNumber_NothingToUndo => k_is)
    (case q_BadName_NothingToUndo => k_is)
    (case q_NoName_NothingToUndo => k_is)
    (case q_TakenName_NothingToUndo => k_is)
    (case q_BadWeb_NothingToUndo => k_is)
    (case q_BadTable_NothingToUndo => k_is)
    (case q_BadRow_NothingToUndo => k_is)
    (case q_BadRows_NothingToUndo => k_is)
    (case q_BadSystem_NothingToUndo => k_is)
    (case q_BadRoot_NothingToUndo => k_is)
    (case q_BadPaper_NothingToUndo => k_is)
    (case q_NotKept_NothingToUndo => k_is)
    (case q_NothingToUndo_NothingToUndo => k_is)
    (case q_NothingToRedo_NothingToUndo => k_is)
    (case q_BadText_NothingToRedo => k_is)
    (case q_BadNumber_NothingToRedo => k_is)
    (case q_BadName_NothingToRedo => k_is)
    (case q_NoName_NothingToRedo => k_is)
    (case q_TakenName_NothingToRedo => k_is)
    (case q_BadWeb_NothingToRedo => k_is)
    (case q_BadTable_NothingToRedo => k_is)
    (case q_BadRow_NothingToRedo => k_is)
    (case q_BadRows_NothingToRedo => k_is)
    (case q_BadSystem_NothingToRedo => k_is)
    (case q_BadRoot_NothingToRedo => k_is)
    (case q_BadPaper_NothingToRedo => k_is)
    (case q_NotKept_NothingToRedo => k_is)
    (case q_NothingToUndo_NothingToRedo => k_is)
    (case q_NothingToRedo_NothingToRedo => k_is)
    (case gcO => k_is)
    (case tcO => k_is)
    (case a0 => k_is)
    (case l0 => k_is)
    (case c0 => k_is)
    (case k0 => k_is)
    (case a1 => k_is)
    (case l1 => k_is)
    (case c1 => k_is)
    (case k1 => k_is)
    (case a2 => k_is)
    (case l2 => k_is)
    (case c2 => k_is)
    (case k2 => k_is)
    (case a3 => k_is)
    (case l3 => k_is)
    (case c3 => k_is)
    (case k3 => k_is)
    (case a4 => k_is)
    (case l4 => k_is)
    (case c4 => k_is)
    (case k4 => k_is)
    (case a5 => k_is)
    (case l5 => k_is)
    (case c5 => k_is)
    (case k5 => k_is)
    (case z_int => k_is)
    (case z_list => k_is)
    (case z_len => k_is)
    (case z_isinstance => k_is)
    (case z_range => k_is)
    (case z_repr => k_is)
    (case z_ValueError => k_is)
end
